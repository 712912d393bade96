import PyProof.Rows.All
import Wide.All
import OpenK.AllK
import Wide.FinOn
import HandS.Base
import HandS.Call
import HandS.List
import HandS.Comp
import HandS.Ends
import HandS.Dict
import HandS.Iter
import HandS.Text
import HandS.Words
import HandS.WordsList
import HandS.WordsDict
import HandS.Exc
import HandS.TryOnly
import HandS.ExcOwn
import HandS.WordsExc
import HandS.HeadHook1
import HandS.HeadHook2
import HandS.TupLe
import HandS.TupMul
import HandS.Deep
import HandS.TupAny
import KE.KRevSl
import KE.GoesEnum
import KE.GoesZip
import KE.GoesMore
import HandS.IsInst
import HandS.Defaults
import HandS.HeadEnd
import HandS.ExcCtx
import HandS.HotCalls
import HandS.ExcIs
import HandS.Style
import HandS.Replace
import KE.KFmtOwn
import HandS.SetFor
import HandS.Strs
import HandS.SortInts
import HandS.TupSets
import KE.DatumOrd
import HandS.More
import HandS.Conv
import KE.KStateDown
import HandS.Head0
import HandS.Head1
import HandS.Head2
import PySem.Challenge.RW_powerfields_k16_whole_from_text_to_recko
set_option Elab.async false
set_option linter.all false
set_option maxRecDepth 100000
set_option maxHeartbeats 0
namespace Pf
open PySem L2
abbrev D := PyData
/-- an attribute: frozen data, or a list of its own -/
inductive Fv where
  | da (d : D)
  | li (ds : List D)
/-- a thing of one's own beside the lists: a dict, an instance of the class c -/
inductive Ob where
  | dk (kvs : List (Key × D))
  | dt (kvs : List (List Key × D))
  | ins (c : Str) (fs : List (Str × Fv))
/-- a slot of the environment: nothing known, frozen data, a list of one's own (b: the one that was lent), a thing of one's own, the script -/
inductive Sl where
  | no
  | va (d : D)
  | ow (b : Bool) (ds : List D)
  | ob (b : Bool) (o : Ob)
  | sc (ns : List Int)
abbrev En := List Sl
/-- how an evaluation ends -/
inductive R (α : Type) where
  | ok (a : α) (e : En)
  | exc (c : Str) (e : En)
  | bad
abbrev M (α : Type) := En → R α
def R.bnd {α β : Type} (r : R α) (k : α → M β) : R β := match r with
  | .ok a e => k a e
  | .exc c e => .exc c e
  | .bad => .bad
/-- a value: data, or what stands in a slot -/
inductive Vd where
  | dat (d : D)
  | sl (i : Nat)
def Le (F G : Hp) : Prop := ∀ a o, F a = some o → G a = some o
theorem Le.refl {F : Hp} : Le F F := fun _ _ h => h
theorem Le.trans {F G H : Hp} (a : Le F G) (b : Le G H) : Le F H := fun x o h => b x o (a x o h)
theorem Le.upd {F : Hp} {p : Addr} {o : HO} (h : F p = none) : Le F (upd F p o) := fun a u e => by
  rw [upd_ne (ne_of_none e h)]; exact e
theorem Le.upd2 {F H : Hp} {p : Addr} {o : HO} (h : Le F H) : Le (L2.upd F p o) (L2.upd H p o) := fun a u e => by
  by_cases q : a = p
  · subst q; rw [upd_same] at e ⊢; exact e
  · rw [upd_ne q] at e ⊢; exact h a u e
theorem Le.updr {F H : Hp} {p : Addr} {o : HO} (h : Le F H) (n : F p = none) : Le F (L2.upd H p o) := fun a u e => by
  rw [upd_ne (ne_of_none e n)]; exact h a u e
theorem Le.none {F H : Hp} {p : Addr} (h : Le F H) (n : H p = none) : F p = none := by
  cases e : F p with
  | none => rfl
  | some o => rw [h p o e] at n; cases n
theorem Le.rd {F H : Hp} {a : Addr} {u : HO} (e : Le F H) (h : Rd F a u) : Rd H a u := by
  rcases h with h | ⟨o, h⟩
  · exact Or.inl (e a _ h)
  · exact Or.inr ⟨o, e a _ h⟩
theorem Le.sqL {K : PySem.W.Frag} {H H' : Hp} {a : Addr} {xs : List V} (e : Le H H') (h : SqL K H a xs) : SqL K H' a xs := by
  rcases h with h | h
  · exact Or.inl (e.rd h)
  · exact Or.inr h
theorem Le.sqT {K : PySem.W.Frag} {H H' : Hp} {a : Addr} {xs : List V} (e : Le H H') (h : SqT K H a xs) : SqT K H' a xs := by
  rcases h with h | h
  · exact Or.inl (e.rd h)
  · exact Or.inr h
mutual
/-- data: lists are tracked, tuples may stand in the written part -/
inductive Dq (K : PySem.W.Frag) (H : Hp) : V → D → Prop
  | non : Dq K H .non .none
  | bl (b : Bool) : Dq K H (.bl b) (.bool b)
  | int (i : Int) : Dq K H (.int i) (.int i)
  | str (x : Str) : Dq K H (.str x) (.str x)
  | lst {a : Addr} {xs : List V} {ds : List D} : H a = some (.lst xs) → DqAll K H xs ds → Dq K H (.ref a) (.list ds)
  | tup {a : Addr} {xs : List V} {ds : List D} : SqT K H a xs → DqAll K H xs ds → Dq K H (.ref a) (.tuple ds)
inductive DqAll (K : PySem.W.Frag) (H : Hp) : List V → List D → Prop
  | nil : DqAll K H [] []
  | cons {v : V} {vs : List V} {d : D} {ds : List D} : Dq K H v d → DqAll K H vs ds → DqAll K H (v :: vs) (d :: ds)
end
mutual
theorem Dq.dp {K : PySem.W.Frag} {H : Hp} : ∀ {v : V} {d : D}, Dq K H v d → Dp K H v d
  | _, _, .non => .non
  | _, _, .bl b => .bl b
  | _, _, .int i => .int i
  | _, _, .str x => .str x
  | _, _, .lst h a => .lst (SqL.of h) (DqAll.dp a)
  | _, _, .tup h a => .tup h (DqAll.dp a)
theorem DqAll.dp {K : PySem.W.Frag} {H : Hp} : ∀ {vs : List V} {ds : List D}, DqAll K H vs ds → DpAll K H vs ds
  | _, _, .nil => .nil
  | _, _, .cons a b => .cons (Dq.dp a) (DqAll.dp b)
end
mutual
theorem Le.dq {K : PySem.W.Frag} {F H : Hp} (l : Le F H) : ∀ {v : V} {d : D}, Dq K F v d → Dq K H v d
  | _, _, .non => .non
  | _, _, .bl b => .bl b
  | _, _, .int i => .int i
  | _, _, .str x => .str x
  | _, _, .lst h a => .lst (l _ _ h) (Le.dqAll l a)
  | _, _, .tup h a => .tup (l.sqT h) (Le.dqAll l a)
theorem Le.dqAll {K : PySem.W.Frag} {F H : Hp} (l : Le F H) : ∀ {vs : List V} {ds : List D}, DqAll K F vs ds → DqAll K H vs ds
  | _, _, .nil => .nil
  | _, _, .cons a b => .cons (Le.dq l a) (Le.dqAll l b)
end
theorem dqAll_len {K : PySem.W.Frag} {F : Hp} : ∀ {vs : List V} {ds : List D}, DqAll K F vs ds → vs.length = ds.length
  | _, _, .nil => rfl
  | _, _, .cons _ b => by simp [dqAll_len b]
theorem dqAll_get {K : PySem.W.Frag} {F : Hp} : ∀ {vs : List V} {ds : List D} {i : Nat} {d : D}, DqAll K F vs ds → ds[i]? = some d → ∃ v, vs[i]? = some v ∧ Dq K F v d
  | _, _, _, _, .nil, e => by simp at e
  | _, _, 0, _, .cons a _, e => by simp at e; subst e; exact ⟨_, rfl, a⟩
  | _, _, i + 1, d, .cons _ b, e => by
    obtain ⟨v, h1, h2⟩ := dqAll_get (i := i) (d := d) b (by simpa using e)
    exact ⟨v, by simpa using h1, h2⟩
theorem dqAll_getV {K : PySem.W.Frag} {F : Hp} : ∀ {vs : List V} {ds : List D} {i : Nat} {v : V}, DqAll K F vs ds → vs[i]? = some v → ∃ d, ds[i]? = some d ∧ Dq K F v d
  | _, _, _, _, .nil, e => by simp at e
  | _, _, 0, _, .cons a _, e => by simp at e; subst e; exact ⟨_, rfl, a⟩
  | _, _, i + 1, d, .cons _ b, e => by
    obtain ⟨v, h1, h2⟩ := dqAll_getV (i := i) (v := d) b (by simpa using e)
    exact ⟨v, by simpa using h1, h2⟩
theorem dqAll_app {K : PySem.W.Frag} {F : Hp} : ∀ {vs ws : List V} {ds es : List D}, DqAll K F vs ds → DqAll K F ws es → DqAll K F (vs ++ ws) (ds ++ es)
  | _, _, _, _, .nil, q => q
  | _, _, _, _, .cons a b, q => .cons a (dqAll_app b q)
theorem dqAll_set {K : PySem.W.Frag} {F : Hp} {v : V} {d : D} (h : Dq K F v d) : ∀ {vs : List V} {ds : List D} (i : Nat), DqAll K F vs ds → DqAll K F (vs.set i v) (ds.set i d)
  | _, _, _, .nil => .nil
  | _, _, 0, .cons _ b => .cons h b
  | _, _, i + 1, .cons a b => .cons a (dqAll_set h i b)
theorem dqAll_take {K : PySem.W.Frag} {F : Hp} : ∀ {vs : List V} {ds : List D} (n : Nat), DqAll K F vs ds → DqAll K F (vs.take n) (ds.take n)
  | _, _, 0, _ => .nil
  | _, _, _ + 1, .nil => .nil
  | _, _, n + 1, .cons a b => .cons a (dqAll_take n b)
theorem dqAll_drop {K : PySem.W.Frag} {F : Hp} : ∀ {vs : List V} {ds : List D} (n : Nat), DqAll K F vs ds → DqAll K F (vs.drop n) (ds.drop n)
  | _, _, 0, h => h
  | _, _, _ + 1, .nil => .nil
  | _, _, n + 1, .cons _ b => dqAll_drop n b
theorem dqAll_rev {K : PySem.W.Frag} {F : Hp} : ∀ {vs : List V} {ds : List D}, DqAll K F vs ds → DqAll K F vs.reverse ds.reverse
  | _, _, .nil => .nil
  | _, _, .cons a b => by
    rw [List.reverse_cons, List.reverse_cons]
    exact dqAll_app (dqAll_rev b) (.cons a .nil)
theorem dqAll_rep {K : PySem.W.Frag} {F : Hp} {v : V} {d : D} (h : Dq K F v d) : ∀ n, DqAll K F (List.replicate n v) (List.replicate n d)
  | 0 => .nil
  | n + 1 => by rw [List.replicate_succ, List.replicate_succ]; exact .cons h (dqAll_rep h n)
/-! ### the state -/
/-- the script -/
def Script (K : PySem.W.Frag) (F : Hp) (a : Addr) (ns : List Int) : Prop := SqL K F a (ns.map V.int) ∧ ns.length ≤ 63
theorem Script.mono {K : PySem.W.Frag} {F F' : Hp} {a : Addr} {ns : List Int} (l : Le F F') (h : Script K F a ns) : Script K F' a ns := ⟨l.sqL h.1, h.2⟩
structure Bs where
  H0 : Hp
  F0 : Hp
  t : Addr
  u : Addr
/-- the attributes -/
inductive FsR (K : PySem.W.Frag) (F H : Hp) : List (Str × V) → List (Str × Fv) → Prop
  | nil : FsR K F H [] []
  | da {x : Str} {v : V} {d : D} {vs : List (Str × V)} {fs : List (Str × Fv)} : Dq K F v d → FsR K F H vs fs → FsR K F H ((x, v) :: vs) ((x, .da d) :: fs)
  | li {x : Str} {l : Addr} {ws : List V} {ds : List D} {vs : List (Str × V)} {fs : List (Str × Fv)} : H l = some (.lst ws) → DqAll K F ws ds → FsR K F H vs fs → FsR K F H ((x, .ref l) :: vs) ((x, .li ds) :: fs)
/-- the lists among the attributes -/
def lisA : List (Str × V) → List (Str × Fv) → List Addr
  | (_, .ref l) :: vs, (_, .li _) :: fs => l :: lisA vs fs
  | _ :: vs, _ :: fs => lisA vs fs
  | _, _ => []
abbrev KvR (K : PySem.W.Frag) (F : Hp) {κ : Type} : List (κ × V) → List (κ × D) → Prop := Paired fun p q => p.1 = q.1 ∧ Dq K F p.2 q.2
def ObR (K : PySem.W.Frag) (F H : Hp) (a : Addr) : Ob → Prop
  | .dk kvs => ∃ vs, H a = some (.dK vs) ∧ KvR K F vs kvs
  | .dt kvs => ∃ vs, H a = some (.dT vs) ∧ KvR K F vs kvs
  | .ins c fs => ∃ dx vs, H a = some (.ins (He.ga K c) dx vs) ∧ H dx = some (.own a) ∧ FsR K F H vs fs
/-- what belongs to the thing at a -/
def Ft (H : Hp) (a : Addr) (o : Ob) (x : Addr) : Prop := x = a ∨ match o with
  | .ins _ fs => ∃ C dx vs, H a = some (.ins C dx vs) ∧ (x = dx ∨ x ∈ lisA vs fs)
  | _ => False
theorem KvR.mono {K : PySem.W.Frag} {F F' : Hp} (l : Le F F') {κ : Type} : ∀ {vs : List (κ × V)} {ds : List (κ × D)}, KvR K F vs ds → KvR K F' vs ds
  | _, _, .nil => .nil
  | _, _, .cons h t => .cons ⟨h.1, l.dq h.2⟩ (KvR.mono l t)
theorem FsR.mono {K : PySem.W.Frag} {F F' H H' : Hp} (l : Le F F') : ∀ {vs : List (Str × V)} {fs : List (Str × Fv)}, (∀ x ∈ lisA vs fs, H' x = H x) → FsR K F H vs fs → FsR K F' H' vs fs
  | _, _, _, .nil => .nil
  | (_, v) :: vs, _, k, .da h t => .da (l.dq h) (FsR.mono l (fun x hx => k x (by cases v <;> exact hx)) t)
  | _, _, k, .li h a t => .li ((k _ List.mem_cons_self).trans h) (l.dqAll a) (FsR.mono l (fun x hx => k x (List.mem_cons_of_mem _ hx)) t)
theorem ObR.mono {K : PySem.W.Frag} {F F' H H' : Hp} {a : Addr} (l : Le F F') : ∀ {o : Ob}, (∀ x, Ft H a o x → H' x = H x) → ObR K F H a o → ObR K F' H' a o
  | .dk _, k, ⟨vs, h, r⟩ => ⟨vs, (k a (.inl rfl)).trans h, r.mono l⟩
  | .dt _, k, ⟨vs, h, r⟩ => ⟨vs, (k a (.inl rfl)).trans h, r.mono l⟩
  | .ins _ _, k, ⟨dx, vs, h, h2, r⟩ => ⟨dx, vs, (k a (.inl rfl)).trans h, (k dx (.inr ⟨_, dx, vs, h, .inl rfl⟩)).trans h2, FsR.mono l (fun x hx => k x (.inr ⟨_, dx, vs, h, .inr hx⟩)) r⟩
theorem Ft.same {H H' : Hp} {a x : Addr} {o : Ob} (k : H' a = H a) : Ft H' a o x ↔ Ft H a o x := by
  cases o with
  | dk _ => exact Iff.rfl
  | dt _ => exact Iff.rfl
  | ins c fs =>
    unfold Ft
    simp only
    rw [k]
theorem lisA_at {K : PySem.W.Frag} {F H : Hp} : ∀ {vs : List (Str × V)} {fs : List (Str × Fv)}, FsR K F H vs fs → ∀ x ∈ lisA vs fs, ∃ ws, H x = some (.lst ws)
  | _, _, .nil, x, h => by cases h
  | (_, v) :: vs, _, .da _ t, x, h => lisA_at t x (by cases v <;> exact h)
  | _, _, .li h _ t, x, m => by
    rcases List.mem_cons.mp m with e | m
    · exact ⟨_, e ▸ h⟩
    · exact lisA_at t x m
theorem Ft.at_ {K : PySem.W.Frag} {F H : Hp} {a x : Addr} {o : Ob} (h : ObR K F H a o) (f : Ft H a o x) : ∃ u, H x = some u := by
  rcases f with rfl | f
  · cases o with
    | dk _ => obtain ⟨vs, h, _⟩ := h; exact ⟨_, h⟩
    | dt _ => obtain ⟨vs, h, _⟩ := h; exact ⟨_, h⟩
    | ins _ _ => obtain ⟨dx, vs, h, _⟩ := h; exact ⟨_, h⟩
  · cases o with
    | dk _ => exact f.elim
    | dt _ => exact f.elim
    | ins _ fs =>
      obtain ⟨dx, vs, h1, h2, h3⟩ := h
      obtain ⟨C, dx', vs', e, f⟩ := f
      rw [h1] at e
      cases e
      rcases f with rfl | f
      · exact ⟨_, h2⟩
      · obtain ⟨ws, e⟩ := lisA_at h3 x f
        exact ⟨_, e⟩
def SlR (K : PySem.W.Frag) (F H : Hp) (B : Bs) (s : Sl) (v : Option V) : Prop := match s with
  | .no => True
  | .va d => ∃ x, v = some x ∧ Dq K F x d
  | .ow b ds => ∃ a vs, v = some (.ref a) ∧ H a = some (.lst vs) ∧ F a = none ∧ B.H0 a = none ∧ DqAll K F vs ds ∧ (b = true → a = B.t)
  | .ob b o => ∃ a, v = some (.ref a) ∧ ObR K F H a o ∧ (∀ x, Ft H a o x → F x = none ∧ B.H0 x = none) ∧ (b = true → a = B.u)
  | .sc ns => ∃ a, v = some (.ref a) ∧ Script K F a ns
/-- what belongs to a slot -/
def Foot (H : Hp) (s : Sl) (v : Option V) (x : Addr) : Prop := match s with
  | .ow _ _ => v = some (.ref x)
  | .ob _ o => ∃ a, v = some (.ref a) ∧ Ft H a o x
  | _ => False
structure SR (K : PySem.W.Frag) (B : Bs) (F : Hp) (env : En) (σ : St) (H : Hp) : Prop where
  len : σ.length = env.length
  same : Le B.H0 H
  f0 : Le B.F0 F
  fh : Le F H
  new : ∀ b o, F b = some o → B.F0 b = some o ∨ B.H0 b = none
  sl : ∀ (i : Nat) (s : Sl), env[i]? = some s → ∃ v, σ[i]? = some v ∧ SlR K F H B s v
  own : ∀ (i j : Nat) (s t : Sl) (v w : Option V) (x : Addr), i ≠ j → env[i]? = some s → env[j]? = some t → σ[i]? = some v → σ[j]? = some w → Foot H s v x → ¬ Foot H t w x
/-- p belongs to no slot -/
def NoFt (e : En) (σ : St) (H : Hp) (p : Addr) : Prop := ∀ (j : Nat) (s : Sl) (v : Option V), e[j]? = some s → σ[j]? = some v → ¬ Foot H s v p
theorem Foot.at_ {K : PySem.W.Frag} {F H : Hp} {B : Bs} {s : Sl} {v : Option V} {x : Addr} (h : SlR K F H B s v) (f : Foot H s v x) : (∃ u, H x = some u) ∧ F x = none ∧ B.H0 x = none := by
  cases s with
  | ow b ds =>
    obtain ⟨a, vs, rfl, h1, h2, h3, _⟩ := h
    cases (show some (V.ref a) = some (.ref x) from f)
    exact ⟨⟨_, h1⟩, h2, h3⟩
  | ob b o =>
    obtain ⟨a, rfl, h1, h2, _⟩ := h
    obtain ⟨a', e, f⟩ := f
    cases e
    exact ⟨f.at_ h1, h2 x f⟩
  | _ => exact f.elim
/-- a slot whose things stay -/
theorem SlR.keep {K : PySem.W.Frag} {F F' H H' : Hp} {B : Bs} {s : Sl} {v : Option V} (l : Le F F') (k : ∀ x, Foot H s v x → H' x = H x ∧ F' x = none) (h : SlR K F H B s v) : SlR K F' H' B s v ∧ ∀ x, Foot H' s v x ↔ Foot H s v x := by
  cases s with
  | no => exact ⟨trivial, fun _ => Iff.rfl⟩
  | va d => obtain ⟨x, e, q⟩ := h; exact ⟨⟨x, e, l.dq q⟩, fun _ => Iff.rfl⟩
  | ow bb ds =>
    obtain ⟨a, vs, e, h1, h2, h3, h4, h5⟩ := h
    obtain ⟨k1, k2⟩ := k a e
    exact ⟨⟨a, vs, e, k1.trans h1, k2, h3, l.dqAll h4, h5⟩, fun _ => Iff.rfl⟩
  | ob bb o =>
    obtain ⟨a, e, h1, h2, h3⟩ := h
    have k1 : ∀ x, Ft H a o x → H' x = H x := fun x f => (k x ⟨a, e, f⟩).1
    have k2 : ∀ x, Ft H' a o x ↔ Ft H a o x := fun x => Ft.same (k1 a (.inl rfl))
    refine ⟨⟨a, e, h1.mono l k1, fun x f => ⟨(k x ⟨a, e, (k2 x).mp f⟩).2, (h2 x ((k2 x).mp f)).2⟩, h3⟩, fun x => ?_⟩
    constructor
    · rintro ⟨b, e', f⟩
      rw [e] at e'
      cases e'
      exact ⟨a, e, (k2 x).mp f⟩
    · rintro ⟨b, e', f⟩
      rw [e] at e'
      cases e'
      exact ⟨a, e, (k2 x).mpr f⟩
  | sc ns => obtain ⟨a, e, q⟩ := h; exact ⟨⟨a, e, q.mono l⟩, fun _ => Iff.rfl⟩
def VR (K : PySem.W.Frag) (F : Hp) (σ : St) (v : V) : Vd → Prop
  | .dat d => Dq K F v d
  | .sl i => σ[i]? = some (some v)
theorem VR.mono {K : PySem.W.Frag} {F F' : Hp} {σ : St} {v : V} {vd : Vd} (l : Le F F') (h : VR K F σ v vd) : VR K F' σ v vd := by
  cases vd with
  | dat d => exact l.dq h
  | sl i => exact h
/-- the top stands in H, what is within in F -/
inductive Tp (K : PySem.W.Frag) (F H : Hp) : V → D → Prop
  | non : Tp K F H .non .none
  | bl (b : Bool) : Tp K F H (.bl b) (.bool b)
  | int (i : Int) : Tp K F H (.int i) (.int i)
  | str (x : Str) : Tp K F H (.str x) (.str x)
  | lst {a : Addr} {xs : List V} {ds : List D} : H a = some (.lst xs) → DqAll K F xs ds → Tp K F H (.ref a) (.list ds)
  | tup {a : Addr} {xs : List V} {ds : List D} : SqT K F a xs → DqAll K F xs ds → Tp K F H (.ref a) (.tuple ds)
theorem Tp.of {K : PySem.W.Frag} {F H : Hp} (l : Le F H) {v : V} {d : D} (h : Dq K F v d) : Tp K F H v d := by
  cases h with
  | non => exact .non
  | bl b => exact .bl b
  | int i => exact .int i
  | str x => exact .str x
  | lst h a => exact .lst (l _ _ h) a
  | tup h a => exact .tup h a
theorem Tp.dq {K : PySem.W.Frag} {F H : Hp} (l : Le F H) {v : V} {d : D} (h : Tp K F H v d) : Dq K H v d := by
  cases h with
  | non => exact .non
  | bl b => exact .bl b
  | int i => exact .int i
  | str x => exact .str x
  | lst h a => exact .lst h (l.dqAll a)
  | tup h a => exact .tup (l.sqT h) (l.dqAll a)
/-- what stands at a value now -/
def rd (env : En) : Vd → Option D
  | .dat d => some d
  | .sl i => match env[i]? with
    | some (.va d) => some d
    | some (.ow _ ds) => some (.list ds)
    | _ => none
theorem SR.tp {K : PySem.W.Frag} {B : Bs} {F : Hp} {env : En} {σ : St} {H : Hp} (S : SR K B F env σ H) {v : V} {vd : Vd} {d : D} (r : VR K F σ v vd) (e : rd env vd = some d) : Tp K F H v d := by
  cases vd with
  | dat x =>
    have q : x = d := Option.some.inj e
    subst q
    exact .of S.fh r
  | sl i =>
    have r : σ[i]? = some (some v) := r
    unfold rd at e
    simp only at e
    cases q : env[i]? with
    | none => rw [q] at e; cases e
    | some s =>
      rw [q] at e
      obtain ⟨w, h1, h2⟩ := S.sl i s q
      rw [r] at h1
      have h1 : some v = w := Option.some.inj h1
      subst h1
      cases s with
      | no => cases e
      | sc ns => cases e
      | ob _ _ => cases e
      | va x =>
        have q : x = d := Option.some.inj e
        subst q
        obtain ⟨y, h3, h4⟩ := h2
        cases h3
        exact .of S.fh h4
      | ow bb ds =>
        have q : PyData.list ds = d := Option.some.inj e
        subst q
        obtain ⟨a, vs, h3, h4, h5, h6, h7, h8⟩ := h2
        cases h3
        exact .lst h4 h7
/-- freezing -/
def fz (vd : Vd) : M D := fun env => match vd with
  | .dat d => .ok d env
  | .sl i => match env[i]? with
    | some (.va d) => .ok d env
    | some (.ow _ ds) => .ok (.list ds) (env.set i (.va (.list ds)))
    | _ => .bad
theorem getElem?_set' {α : Type} (l : List α) (i j : Nat) (x y : α) (h : (l.set i x)[j]? = some y) : (i = j ∧ y = x ∧ i < l.length) ∨ (i ≠ j ∧ l[j]? = some y) := by
  by_cases e : i = j
  · subst e
    rw [List.getElem?_set] at h
    rw [if_pos rfl] at h
    split at h
    · rename_i q; exact .inl ⟨rfl, (Option.some.inj h).symm, q⟩
    · cases h
  · rw [List.getElem?_set_ne e] at h
    exact .inr ⟨e, h⟩
section
variable {K : PySem.W.Frag} {B : Bs} {F : Hp} {env env' : En} {σ : St} {H : Hp}
/-- the heap changes beside the slots -/
theorem SR.chg (S : SR K B F env σ H) {F' H' : Hp} (hB : Le B.H0 H') (l : Le F F') (f : Le F' H') (n : ∀ b o, F' b = some o → B.F0 b = some o ∨ B.H0 b = none) (k : ∀ (j : Nat) (s : Sl) (v : Option V) (x : Addr), env[j]? = some s → σ[j]? = some v → Foot H s v x → H' x = H x ∧ F' x = none) : SR K B F' env σ H' := by
  have kk : ∀ (j : Nat) (s : Sl) (v : Option V), env[j]? = some s → σ[j]? = some v → SlR K F' H' B s v ∧ ∀ x, Foot H' s v x ↔ Foot H s v x := fun j s v hj hv => by
    obtain ⟨w, g1, g2⟩ := S.sl j s hj
    rw [hv] at g1
    cases g1
    exact g2.keep l fun x => k j s v x hj hv
  refine ⟨S.len, hB, S.f0.trans l, f, n, fun i s hi => ?_, fun i j s t v w x ne hi hj hv hw fo fo' => ?_⟩
  · obtain ⟨v, g1, g2⟩ := S.sl i s hi
    exact ⟨v, g1, (kk i s v hi g1).1⟩
  · exact S.own i j s t v w x ne hi hj hv hw (((kk i s v hi hv).2 x).mp fo) (((kk j t w hj hw).2 x).mp fo')
/-- a slot changes, and the heap with it -/
theorem SR.put (S : SR K B F env σ H) {F' H' : Hp} {σ' : St} (i : Nat) {s' : Sl} (hB : Le B.H0 H') (l : Le F F') (f : Le F' H') (n : ∀ b o, F' b = some o → B.F0 b = some o ∨ B.H0 b = none)
    (hl : σ'.length = σ.length) (ho : ∀ j, i ≠ j → σ'[j]? = σ[j]?) (k : ∀ (j : Nat) (s : Sl) (v : Option V) (x : Addr), i ≠ j → env[j]? = some s → σ[j]? = some v → Foot H s v x → H' x = H x ∧ F' x = none)
    (hs : i < env.length → ∃ v', σ'[i]? = some v' ∧ SlR K F' H' B s' v' ∧ ∀ x, Foot H' s' v' x → ∀ (j : Nat) (s : Sl) (v : Option V), i ≠ j → env[j]? = some s → σ[j]? = some v → ¬ Foot H s v x) : SR K B F' (env.set i s') σ' H' := by
  have kk : ∀ (j : Nat) (s : Sl) (v : Option V), i ≠ j → env[j]? = some s → σ[j]? = some v → SlR K F' H' B s v ∧ ∀ x, Foot H' s v x ↔ Foot H s v x := fun j s v ne hj hv => by
    obtain ⟨w, g1, g2⟩ := S.sl j s hj
    rw [hv] at g1
    cases g1
    exact g2.keep l fun x => k j s v x ne hj hv
  refine ⟨by rw [List.length_set, hl]; exact S.len, hB, S.f0.trans l, f, n, fun j s hj => ?_, fun a b s t v w x ne ha hb hv hw fo fo' => ?_⟩
  · rcases getElem?_set' _ _ _ _ _ hj with ⟨rfl, rfl, q⟩ | ⟨ne, hj⟩
    · obtain ⟨v', g1, g2, _⟩ := hs q
      exact ⟨v', g1, g2⟩
    · obtain ⟨v, g1, _⟩ := S.sl j s hj
      exact ⟨v, (ho j ne).trans g1, (kk j s v ne hj g1).1⟩
  · rcases getElem?_set' _ _ _ _ _ ha with ⟨rfl, rfl, q⟩ | ⟨n1, ha2⟩
    · rcases getElem?_set' _ _ _ _ _ hb with ⟨rfl, _, _⟩ | ⟨n2, hb2⟩
      · exact ne rfl
      · obtain ⟨v', g1, _, g3⟩ := hs q
        rw [hv] at g1
        cases g1
        rw [ho b n2] at hw
        exact g3 x fo b t w n2 hb2 hw (((kk b t w n2 hb2 hw).2 x).mp fo')
    · rw [ho a n1] at hv
      rcases getElem?_set' _ _ _ _ _ hb with ⟨rfl, rfl, q⟩ | ⟨n2, hb2⟩
      · obtain ⟨v', g1, _, g3⟩ := hs q
        rw [hw] at g1
        cases g1
        exact g3 x fo' a s v n1 ha2 hv (((kk a s v n1 ha2 hv).2 x).mp fo)
      · rw [ho b n2] at hw
        exact S.own a b s t v w x ne ha2 hb2 hv hw (((kk a s v n1 ha2 hv).2 x).mp fo) (((kk b t w n2 hb2 hw).2 x).mp fo')
/-- what belongs to a slot stands, is not frozen, and was not there -/
theorem SR.foot (S : SR K B F env σ H) {j : Nat} {s : Sl} {v : Option V} {x : Addr} (hj : env[j]? = some s) (hv : σ[j]? = some v) (f : Foot H s v x) : (∃ u, H x = some u) ∧ F x = none ∧ B.H0 x = none := by
  obtain ⟨w, g1, g2⟩ := S.sl j s hj
  rw [hv] at g1
  cases g1
  exact f.at_ g2
theorem SR.noFt (S : SR K B F env σ H) {p : Addr} (n : H p = none) : NoFt env σ H p := fun j s v hj hv f => by
  obtain ⟨⟨u, e⟩, _⟩ := S.foot hj hv f
  rw [n] at e
  cases e
theorem SR.noFtF (S : SR K B F env σ H) {p : Addr} {o : HO} (n : F p = some o) : NoFt env σ H p := fun j s v hj hv f => by
  obtain ⟨_, e, _⟩ := S.foot hj hv f
  rw [n] at e
  cases e
/-- a new thing is laid in the frozen part -/
theorem SR.alloc (S : SR K B F env σ H) {p : Addr} {o : HO} (n : H p = none) : SR K B (upd F p o) env σ (upd H p o) := by
  have nF := S.fh.none n
  have nH := S.same.none n
  refine S.chg (S.same.trans (Le.upd n)) (Le.upd nF) S.fh.upd2 (fun b u e => ?_) fun j s v x hj hv f => ?_
  · by_cases q : b = p
    · subst q; exact .inr nH
    · rw [upd_ne q] at e; exact S.new b u e
  · obtain ⟨⟨u, e⟩, e2, _⟩ := S.foot hj hv f
    have ne := ne_of_none e n
    exact ⟨upd_ne ne, by rw [upd_ne ne]; exact e2⟩
/-- a new thing is laid beside -/
theorem SR.beside (S : SR K B F env σ H) {p : Addr} {o : HO} (n : H p = none) : SR K B F env σ (upd H p o) := by
  have nF := S.fh.none n
  refine S.chg (S.same.trans (Le.upd n)) .refl (S.fh.updr nF) S.new fun j s v x hj hv f => ?_
  obtain ⟨⟨u, e⟩, e2, _⟩ := S.foot hj hv f
  exact ⟨upd_ne (ne_of_none e n), e2⟩
/-- the heap has grown around -/
theorem SR.grow (S : SR K B F env σ H) {F' H' : Hp} (l : Le F F') (k : Le H H') (f : Le F' H') (n : ∀ b o, F' b = some o → F b = some o ∨ H b = none) : SR K B F' env σ H' := by
  refine S.chg (S.same.trans k) l f (fun b o e => ?_) fun j s v x hj hv fo => ?_
  · rcases n b o e with q | q
    · exact S.new b o q
    · exact .inr (S.same.none q)
  · obtain ⟨⟨u, e⟩, e2, _⟩ := S.foot hj hv fo
    refine ⟨(k x u e).trans e.symm, ?_⟩
    cases q : F' x with
    | none => rfl
    | some o =>
      rcases n x o q with z | z
      · rw [e2] at z; cases z
      · rw [e] at z; cases z
theorem SR.fz {v : V} {vd : Vd} {d : D} (S : SR K B F env σ H) (r : VR K F σ v vd) (e : fz vd env = .ok d env') : ∃ F', Le F F' ∧ SR K B F' env' σ H ∧ Dq K F' v d := by
  cases vd with
  | dat x =>
    have q : R.ok x env = R.ok d env' := e
    cases q
    exact ⟨F, .refl, S, r⟩
  | sl i =>
    have r : σ[i]? = some (some v) := r
    unfold Pf.fz at e
    simp only at e
    cases q : env[i]? with
    | none => rw [q] at e; cases e
    | some s =>
      rw [q] at e
      obtain ⟨w, h1, h2⟩ := S.sl i s q
      rw [r] at h1
      have h1 : some v = w := Option.some.inj h1
      subst h1
      cases s with
      | no => cases e
      | sc ns => cases e
      | ob _ _ => cases e
      | va x =>
        have e : R.ok x env = R.ok d env' := e
        cases e
        obtain ⟨y, h3, h4⟩ := h2
        cases h3
        exact ⟨F, .refl, S, h4⟩
      | ow bb ds =>
        have e : R.ok (PyData.list ds) (env.set i (.va (.list ds))) = R.ok d env' := e
        cases e
        obtain ⟨a, vs, h3, h4, h5, h6, h7, h8⟩ := h2
        cases h3
        have l : Le F (upd F a (.lst vs)) := Le.upd h5
        refine ⟨upd F a (.lst vs), l, S.put i S.same l ?_ ?_ rfl (fun _ _ => rfl) ?_ fun _ => ⟨_, r, ⟨_, rfl, .lst upd_same (l.dqAll h7)⟩, fun x f => f.elim⟩, .lst upd_same (l.dqAll h7)⟩
        · intro b o eb
          by_cases z : b = a
          · subst z; rw [upd_same] at eb; cases eb; exact h4
          · rw [upd_ne z] at eb; exact S.fh b o eb
        · intro b o eb
          by_cases z : b = a
          · subst z; exact .inr h6
          · rw [upd_ne z] at eb; exact S.new b o eb
        · intro j s w x ne hj hv f
          obtain ⟨_, e2, _⟩ := S.foot hj hv f
          have ne' : x ≠ a := fun z => by
            subst z
            exact S.own i j _ s _ w x ne q hj r hv rfl f
          exact ⟨rfl, by rw [upd_ne ne']; exact e2⟩
/-- frozen data goes to a slot -/
theorem SR.setVa (S : SR K B F env σ H) {v : V} {d : D} (i : Nat) (h : Dq K F v d) : SR K B F (env.set i (.va d)) (σ.set i (some v)) H :=
  S.put i S.same .refl S.fh S.new (by rw [List.length_set]) (fun j ne => List.getElem?_set_ne ne) (fun j s w x _ hj hv f => ⟨rfl, (S.foot hj hv f).2.1⟩)
    fun q => ⟨some v, by rw [List.getElem?_set_self (by rw [S.len]; exact q)], ⟨v, rfl, h⟩, fun x f => f.elim⟩
/-- a new list goes to a slot and is its own -/
theorem SR.setOw (S : SR K B F env σ H) {p : Addr} {vs : List V} {ds : List D} (i : Nat) (h : H p = some (.lst vs)) (nF : F p = none) (nH : B.H0 p = none) (a : DqAll K F vs ds) (fr : NoFt env σ H p) :
    SR K B F (env.set i (.ow false ds)) (σ.set i (some (.ref p))) H :=
  S.put i S.same .refl S.fh S.new (by rw [List.length_set]) (fun j ne => List.getElem?_set_ne ne) (fun j s w x _ hj hv f => ⟨rfl, (S.foot hj hv f).2.1⟩)
    fun q => ⟨some (.ref p), by rw [List.getElem?_set_self (by rw [S.len]; exact q)], ⟨p, vs, rfl, h, nF, nH, a, fun z => nomatch z⟩, fun x f j s v _ hj hv => by
      cases (show some (V.ref p) = some (.ref x) from f)
      exact fr j s v hj hv⟩
/-- the list of a slot is changed -/
theorem SR.mut (S : SR K B F env σ H) {i : Nat} {a : Addr} {bb : Bool} {ds es : List D} {ws : List V} (hi : env[i]? = some (.ow bb ds)) (hv : σ[i]? = some (some (.ref a))) (w : DqAll K F ws es) : SR K B F (env.set i (.ow bb es)) σ (upd H a (.lst ws)) := by
  obtain ⟨v, h1, h2⟩ := S.sl i _ hi
  rw [hv] at h1
  have h1 : some (V.ref a) = v := Option.some.inj h1
  subst h1
  obtain ⟨a', vs, h3, h4, h5, h6, h7, h8⟩ := h2
  cases h3
  have no : ∀ (j : Nat) (s : Sl) (v : Option V) (x : Addr), i ≠ j → env[j]? = some s → σ[j]? = some v → Foot H s v x → x ≠ a := fun j s v x ne hj hw f z => by
    subst z
    exact S.own i j _ s _ v x ne hi hj hv hw rfl f
  refine S.put i (fun b o e => ?_) .refl (S.fh.updr h5) S.new rfl (fun _ _ => rfl) (fun j s v x ne hj hw f => ⟨upd_ne (no j s v x ne hj hw f), (S.foot hj hw f).2.1⟩) fun _ => ⟨_, hv, ⟨a, ws, rfl, upd_same, h5, h6, w, h8⟩, fun x f j s v ne hj hw f' => ?_⟩
  · rw [upd_ne (ne_of_none e h6)]; exact S.same b o e
  · cases (show some (V.ref a) = some (.ref x) from f)
    exact no j s v a ne hj hw f' rfl
/-- a list of one's own beside -/
theorem NoFt.setOw {p q : Addr} {i : Nat} {b : Bool} {ds : List D} (hl : σ.length = env.length) (h : NoFt env σ H q) (ne : q ≠ p) : NoFt (env.set i (.ow b ds)) (σ.set i (some (.ref p))) H q := fun j s v hj hv f => by
  rcases getElem?_set' _ _ _ _ _ hj with ⟨rfl, rfl, z⟩ | ⟨n2, hj⟩
  · rw [List.getElem?_set_self (by rw [hl]; exact z)] at hv
    cases hv
    cases (show some (V.ref p) = some (.ref q) from f)
    exact ne rfl
  · rw [List.getElem?_set_ne n2] at hv
    exact h j s v hj hv f
theorem SR.noFtLe {H' : Hp} {p : Addr} (S : SR K B F env σ H) (k : Le H H') (h : NoFt env σ H p) : NoFt env σ H' p := fun j s v hj hv f => h j s v hj hv (by
  cases s with
  | ow b ds => exact f
  | ob b u =>
    obtain ⟨a, e, f⟩ := f
    obtain ⟨⟨w, hw⟩, _⟩ := S.foot (x := a) hj hv ⟨a, e, .inl rfl⟩
    exact ⟨a, e, (Ft.same ((k a w hw).trans hw.symm)).mp f⟩
  | _ => exact f)
theorem NoFt.upd {p : Addr} {o : HO} (h : NoFt env σ H p) : NoFt env σ (upd H p o) p := fun j s v hj hv f => h j s v hj hv (by
  cases s with
  | ow b ds => exact f
  | ob b u =>
    obtain ⟨a, e, f⟩ := f
    have ne : a ≠ p := fun z => h j _ v hj hv ⟨a, e, .inl z.symm⟩
    exact ⟨a, e, (Ft.same (upd_ne ne)).mp f⟩
  | _ => exact f)
end
end Pf
namespace Pf
open PySem L2
/-! ### readings -/
def Rs {α : Type} (r : R α) (P : α → En → Prop) (E : Str → En → Prop) : Prop := match r with
  | .ok a e => P a e
  | .exc c e => E c e
  | .bad => False
theorem Rs.mono {α : Type} {r : R α} {P P' : α → En → Prop} {E E' : Str → En → Prop} (h : Rs r P E) (hp : ∀ a e, P a e → P' a e) (he : ∀ c e, E c e → E' c e) : Rs r P' E' := by
  cases r with
  | ok a e => exact hp a e h
  | exc c e => exact he c e h
  | bad => exact h
theorem Rs.bnd {α β : Type} {r : R α} {k : α → M β} {P : β → En → Prop} {E : Str → En → Prop} (h : Rs (r.bnd k) P E) : Rs r (fun a e => Rs (k a e) P E) E := by
  cases r with
  | ok a e => exact h
  | exc c e => exact h
  | bad => exact h
def xW (W : WX) (K : PySem.W.Frag) (B : Bs) (F : Hp) (σ : St) : Str → En → Prop := fun c e => ∀ H' F', Le F F' → SR K B F' e σ H' → W (.ref (He.ga K c)) none σ H'
theorem xW.mono {W : WX} {K : PySem.W.Frag} {B : Bs} {F F' : Hp} {σ : St} (l : Le F F') {c : Str} {e : En} (h : xW W K B F σ c e) : xW W K B F' σ c e := fun H' G l' S => h H' G (l.trans l') S
def tE (K : PySem.W.Frag) (W : WX) (f : M Vd) : TE := fun σ H Q => ∃ B F env, SR K B F env σ H ∧ Rs (f env) (fun vd e => ∀ v H' F', Le F F' → SR K B F' e σ H' → VR K F' σ v vd → Q v H') (xW W K B F σ)
def tT (K : PySem.W.Frag) (W : WX) (f : M Bool) : TT := fun σ H Q => ∃ B F env, SR K B F env σ H ∧ Rs (f env) (fun b e => ∀ H' F', Le F F' → SR K B F' e σ H' → Q b H') (xW W K B F σ)
inductive VRs (K : PySem.W.Frag) (F : Hp) (σ : St) : List V → List Vd → Prop
  | nil : VRs K F σ [] []
  | cons {v : V} {vs : List V} {d : Vd} {ds : List Vd} : VR K F σ v d → VRs K F σ vs ds → VRs K F σ (v :: vs) (d :: ds)
theorem VRs.mono {K : PySem.W.Frag} {F F' : Hp} {σ : St} (l : Le F F') : ∀ {vs : List V} {ds : List Vd}, VRs K F σ vs ds → VRs K F' σ vs ds
  | _, _, .nil => .nil
  | _, _, .cons a b => .cons (a.mono l) (b.mono l)
def tA (K : PySem.W.Frag) (W : WX) (f : M (List Vd)) : TA := fun σ H Q => ∃ B F env, SR K B F env σ H ∧ Rs (f env) (fun vds e => ∀ vs H' F', Le F F' → SR K B F' e σ H' → VRs K F' σ vs vds → Q vs H') (xW W K B F σ)
/-- a new list: nobody's yet -/
structure Fr (K : PySem.W.Frag) (B : Bs) (F : Hp) (e : En) (σ : St) (H : Hp) (p : Addr) (ds : List D) : Prop where
  at_ : ∃ vs, H p = some (.lst vs) ∧ DqAll K F vs ds
  nF : F p = none
  nH : B.H0 p = none
  ns : NoFt e σ H p
def tN (K : PySem.W.Frag) (W : WX) (f : M (List D)) : TE := fun σ H Q => ∃ B F env, SR K B F env σ H ∧ Rs (f env) (fun ds e => ∀ p H' F', Le F F' → SR K B F' e σ H' → Fr K B F' e σ H' p ds → Q (.ref p) H') (xW W K B F σ)
section
variable {K : PySem.W.Frag} {W : WX} {B : Bs} {F G : Hp} {env : En} {σ : St} {H : Hp}
theorem tE_in {f : M Vd} {P : Vd → En → Prop} {Q : VK} (S : SR K B F env σ H) (l : Le G F) (h : Rs (f env) P (xW W K B G σ)) (k : ∀ vd e v H' F', Le F F' → SR K B F' e σ H' → VR K F' σ v vd → P vd e → Q v H') : tE K W f σ H Q :=
  ⟨B, F, env, S, h.mono (fun vd e p v H' F' l' S' r => k vd e v H' F' l' S' r p) (fun c e q => xW.mono l q)⟩
theorem tT_in {f : M Bool} {P : Bool → En → Prop} {Q : Bool → Hp → Prop} (S : SR K B F env σ H) (l : Le G F) (h : Rs (f env) P (xW W K B G σ)) (k : ∀ b e H' F', Le F F' → SR K B F' e σ H' → P b e → Q b H') : tT K W f σ H Q :=
  ⟨B, F, env, S, h.mono (fun vd e p H' F' l' S' => k vd e H' F' l' S' p) (fun c e q => xW.mono l q)⟩
theorem tA_in {f : M (List Vd)} {P : List Vd → En → Prop} {Q : List V → Hp → Prop} (S : SR K B F env σ H) (l : Le G F) (h : Rs (f env) P (xW W K B G σ)) (k : ∀ vds e vs H' F', Le F F' → SR K B F' e σ H' → VRs K F' σ vs vds → P vds e → Q vs H') : tA K W f σ H Q :=
  ⟨B, F, env, S, h.mono (fun vd e p v H' F' l' S' r => k vd e v H' F' l' S' r p) (fun c e q => xW.mono l q)⟩
theorem tN_in {f : M (List D)} {P : List D → En → Prop} {Q : VK} (S : SR K B F env σ H) (l : Le G F) (h : Rs (f env) P (xW W K B G σ)) (k : ∀ ds e p H' F', Le F F' → SR K B F' e σ H' → Fr K B F' e σ H' p ds → P ds e → Q (.ref p) H') : tN K W f σ H Q :=
  ⟨B, F, env, S, h.mono (fun vd e p v H' F' l' S' r => k vd e v H' F' l' S' r p) (fun c e q => xW.mono l q)⟩
/-- a new list is laid -/
theorem SR.fresh (S : SR K B F env σ H) {p : Addr} {vs : List V} {ds : List D} (n : H p = none) (a : DqAll K F vs ds) : SR K B F env σ (upd H p (.lst vs)) ∧ Fr K B F env σ (upd H p (.lst vs)) p ds :=
  ⟨S.beside n, ⟨vs, upd_same, a⟩, S.fh.none n, S.same.none n, (S.noFt n).upd⟩
/-- a new list is frozen -/
theorem SR.frzN (S : SR K B F env σ H) {p : Addr} {ds : List D} (f : Fr K B F env σ H p ds) : ∃ F', Le F F' ∧ SR K B F' env σ H ∧ Dq K F' (.ref p) (.list ds) := by
  obtain ⟨⟨vs, h1, h2⟩, nF, nH, ns⟩ := f
  have l : Le F (upd F p (.lst vs)) := Le.upd nF
  refine ⟨upd F p (.lst vs), l, S.chg S.same l ?_ ?_ ?_, .lst upd_same (l.dqAll h2)⟩
  · intro b o eb
    by_cases z : b = p
    · subst z; rw [upd_same] at eb; cases eb; exact h1
    · rw [upd_ne z] at eb; exact S.fh b o eb
  · intro b o eb
    by_cases z : b = p
    · subst z; exact .inr nH
    · rw [upd_ne z] at eb; exact S.new b o eb
  · intro j s v x hj hv f
    have ne : x ≠ p := fun z => ns j s v hj hv (z ▸ f)
    exact ⟨rfl, by rw [upd_ne ne]; exact (S.foot hj hv f).2.1⟩
end
/-! ### judgements -/
abbrev JE (X : Cx) (W : WX) (e : Expr) (f : M Vd) : Prop := PE X e (tE X.K W f)
abbrev JN (X : Cx) (W : WX) (e : Expr) (f : M (List D)) : Prop := PE X e (tN X.K W f)
abbrev JT (X : Cx) (W : WX) (e : Expr) (f : M Bool) : Prop := PT X e (tT X.K W f)
abbrev JA (X : Cx) (W : WX) (es : List Expr) (f : M (List Vd)) : Prop := PA X es (tA X.K W f)
theorem PE.imp {X : Cx} {e : Expr} {t t' : TE} (h : PE X e t) (k : ∀ σ H Q, t' σ H Q → t σ H Q) : PE X e t' := ⟨fun pins s σ H Q I q => h.run pins s σ H Q I (k σ H Q q)⟩
theorem PT.imp {X : Cx} {e : Expr} {t t' : TT} (h : PT X e t) (k : ∀ σ H Q, t' σ H Q → t σ H Q) : PT X e t' := ⟨fun pins s σ H Q I q => h.run pins s σ H Q I (k σ H Q q)⟩
theorem PA.imp {X : Cx} {e : List Expr} {t t' : TA} (h : PA X e t) (k : ∀ σ H Q, t' σ H Q → t σ H Q) : PA X e t' := ⟨fun pos pins s σ H Q I q => h.run pos pins s σ H Q I (k σ H Q q)⟩
/-- what an operation yields -/
inductive Res (K : PySem.W.Frag) (F H : Hp) : V → Hp → D → Prop
  | same {v : V} {d : D} : Dq K F v d → Res K F H v H d
  | lst {p : Addr} {vs : List V} {ds : List D} : H p = none → DqAll K F vs ds → Res K F H (.ref p) (upd H p (.lst vs)) (.list ds)
  | tup {p : Addr} {vs : List V} {ds : List D} : H p = none → DqAll K F vs ds → Res K F H (.ref p) (upd H p (.tup vs)) (.tuple ds)
theorem Res.fin {K : PySem.W.Frag} {B : Bs} {F : Hp} {env : En} {σ : St} {H H' : Hp} {v : V} {d : D} (r : Res K F H v H' d) (S : SR K B F env σ H) : ∃ F', Le F F' ∧ SR K B F' env σ H' ∧ Dq K F' v d := by
  cases r with
  | same h => exact ⟨F, .refl, S, h⟩
  | lst n a => exact ⟨_, Le.upd (S.fh.none n), S.alloc n, .lst upd_same ((Le.upd (S.fh.none n)).dqAll a)⟩
  | tup n a => exact ⟨_, Le.upd (S.fh.none n), S.alloc n, .tup (SqT.of upd_same) ((Le.upd (S.fh.none n)).dqAll a)⟩
/-- an operation by its data -/
def RD2 (K : PySem.W.Frag) (r : R2) (g : D → D → Option D) : Prop := ∀ (F H : Hp) (x y : V) (a b d : D), Le F H → Tp K F H x a → Tp K F H y b → g a b = some d → ∀ Q : VK, (∀ v H', Res K F H v H' d → Q v H') → r x y H Q
def RD1 (K : PySem.W.Frag) (r : V → Hp → VK → Prop) (g : D → Option D) : Prop := ∀ (F H : Hp) (x : V) (a d : D), Le F H → Tp K F H x a → g a = some d → ∀ Q : VK, (∀ v H', Res K F H v H' d → Q v H') → r x H Q
/-! ### combinators -/
def lift1 (g : D → Option D) (a : Option D) (e : En) : R Vd := match a with
  | some a => (match g a with
    | some d => .ok (.dat d) e
    | none => .bad)
  | none => .bad
def lift2 (g : D → D → Option D) (a b : Option D) (e : En) : R Vd := match a, b with
  | some a, some b => (match g a b with
    | some d => .ok (.dat d) e
    | none => .bad)
  | _, _ => .bad
def eVar (i : Nat) : M Vd := fun env => match env[i]? with
  | none => .bad
  | some .no => .bad
  | some _ => .ok (.sl i) env
def eC (d : D) : M Vd := fun env => .ok (.dat d) env
def eOp1 (g : D → Option D) (fa : M Vd) : M Vd := fun env => (fa env).bnd fun x e => lift1 g (rd e x) e
def eOp2 (g : D → D → Option D) (fa fb : M Vd) : M Vd := fun env => (fa env).bnd fun x e1 => (fb e1).bnd fun y e2 => lift2 g (rd e2 x) (rd e2 y) e2
def eAnd (fa fb : M Vd) : M Vd := fun env => (fa env).bnd fun x e => match rd e x with
  | some (.bool true) => fb e
  | some (.bool false) => .ok (.dat (.bool false)) e
  | _ => .bad
def eOr (fa fb : M Vd) : M Vd := fun env => (fa env).bnd fun x e => match rd e x with
  | some (.bool false) => fb e
  | some (.bool true) => .ok (.dat (.bool true)) e
  | _ => .bad
def eNot (fa : M Vd) : M Vd := fun env => (fa env).bnd fun x e => match rd e x with
  | some (.bool c) => .ok (.dat (.bool (!c))) e
  | _ => .bad
def eIf (ft : M Bool) (fa fb : M Vd) : M Vd := fun env => (ft env).bnd fun c e => if c = true then fa e else fb e
def bT (fa : M Vd) : M Bool := fun env => (fa env).bnd fun x e => match rd e x with
  | some (.bool c) => .ok c e
  | _ => .bad
def bAnd (fa fb : M Bool) : M Bool := fun env => (fa env).bnd fun c e => if c = true then fb e else .ok false e
def bOr (fa fb : M Bool) : M Bool := fun env => (fa env).bnd fun c e => if c = true then .ok true e else fb e
def bNot (fa : M Bool) : M Bool := fun env => (fa env).bnd fun c e => .ok (!c) e
def aNil : M (List Vd) := fun env => .ok [] env
def aCons (fa : M Vd) (fr : M (List Vd)) : M (List Vd) := fun env => (fa env).bnd fun x e => (fr e).bnd fun xs e => .ok (x :: xs) e
/-- all are frozen -/
def fzAll : List Vd → M (List D)
  | [] => fun env => .ok [] env
  | x :: xs => fun env => (fz x env).bnd fun d e => (fzAll xs e).bnd fun ds e => .ok (d :: ds) e
def szL (n : Nat) : Bool := Nat.ble n 10000
def nLst (fa : M (List Vd)) : M (List D) := fun env => (fa env).bnd fun xs e => (fzAll xs e).bnd fun ds e => if szL ds.length = true then .ok ds e else .bad
def eTup (fa : M (List Vd)) : M Vd := fun env => (fa env).bnd fun xs e => (fzAll xs e).bnd fun ds e => if szL ds.length = true then .ok (.dat (.tuple ds)) e else .bad
/-- a new list as data -/
def eN (f : M (List D)) : M Vd := fun env => (f env).bnd fun ds e => .ok (.dat (.list ds)) e
theorem szL_le {n : Nat} (h : szL n = true) : n ≤ 10000 := Nat.le_of_ble_eq_true h
theorem szL_line {n : Nat} (h : szL n = true) : n ≤ sizeLine := Nat.le_trans (szL_le h) (by decide)
/-! ### rules -/
section
variable {X : Cx} {W : WX} {a b c : Expr} {fa fb fc : M Vd} {pos : Pos}
theorem je_var {i : Nat} {x : Str} (hN : X.N[i]? = some x) (hv : Vis X.env.scope x) (hd : (x == ("__debug__" : Str)) = false := by decide) (hcd : (x == ("__classdict__" : Str)) = false := by decide) : JE X W (.Name x pos) (eVar i) := by
  refine PE.imp (pe_var hN hv hd hcd) fun σ H Q h => ?_
  obtain ⟨B, F, env, S, h⟩ := h
  unfold eVar at h
  cases q : env[i]? with
  | none => rw [q] at h; exact h.elim
  | some s =>
    rw [q] at h
    obtain ⟨v, h1, h2⟩ := S.sl i s q
    have go : ∀ x, v = some x → Rs (.ok (.sl i) env) (fun vd e => ∀ v H' F', Le F F' → SR X.K B F' e σ H' → VR X.K F' σ v vd → Q v H') (xW W X.K B F σ) → tVar i σ H Q := fun x e h => by
      subst e
      exact ⟨x, h1, h x H F .refl S h1⟩
    cases s with
    | no => exact h.elim
    | va d => obtain ⟨x, e, _⟩ := h2; exact go x e h
    | ow bb ds => obtain ⟨x, _, e, _⟩ := h2; exact go _ e h
    | sc ns => obtain ⟨x, e, _⟩ := h2; exact go _ e h
    | ob bb o => obtain ⟨x, e, _⟩ := h2; exact go _ e h
theorem je_of {e : Expr} {v : V} {d : D} (h : PE X e (tC v)) (r : ∀ F, Dq X.K F v d) : JE X W e (eC d) := by
  refine PE.imp h fun σ H Q h => ?_
  obtain ⟨B, F, env, S, h⟩ := h
  exact h v H F .refl S (r F)
theorem je_int {i j} : JE X W (.Constant (.int i) j pos) (eC (.int i)) := je_of pe_int fun _ => .int i
theorem je_bl {b j} : JE X W (.Constant (.bool b) j pos) (eC (.bool b)) := je_of pe_bl fun _ => .bl b
theorem je_non {j} : JE X W (.Constant .none j pos) (eC .none) := je_of pe_non fun _ => .non
theorem je_str {x j} : JE X W (.Constant (.str x) j pos) (eC (.str x)) := je_of pe_str fun _ => .str x
theorem je_gint {x : Str} {i : Int} (hg : Gl X x) (hm : ∃ t, X.mg x = some (.int i t)) (hd : (x == ("__debug__" : Str)) = false := by decide) : JE X W (.Name x pos) (eC (.int i)) := by
  obtain ⟨t, hm⟩ := hm
  exact je_of (pe_glob (v := .int i) hg hm ⟨t, rfl⟩ hd) fun _ => .int i
theorem je_gstr {x z : Str} (hg : Gl X x) (hm : ∃ t, X.mg x = some (.str z t)) (hd : (x == ("__debug__" : Str)) = false := by decide) : JE X W (.Name x pos) (eC (.str z)) := by
  obtain ⟨t, hm⟩ := hm
  exact je_of (pe_glob (v := .str z) hg hm ⟨t, rfl⟩ hd) fun _ => .str z
theorem je_gref {x : Str} {a : Addr} {d : D} (hg : Gl X x) (hm : X.mg x = some (.ref a)) (r : ∀ F, Dq X.K F (.ref a) d) (hd : (x == ("__debug__" : Str)) = false := by decide) : JE X W (.Name x pos) (eC d) :=
  je_of (pe_glob (v := .ref a) hg hm rfl hd) r
theorem run2 {g : D → D → Option D} {r : R2} (hr : RD2 X.K r g) {σ : St} {H : Hp} {Q : VK} (h : tE X.K W (eOp2 g fa fb) σ H Q) : tOp r (tE X.K W fa) (tE X.K W fb) σ H Q := by
  obtain ⟨B, F, env, S, h⟩ := h
  refine tE_in S .refl h.bnd fun x e1 v H1 F1 l1 S1 r1 h1 => ?_
  refine tE_in S1 l1 h1.bnd fun y e2 u H2 F2 l2 S2 r2 h2 => ?_
  unfold lift2 at h2
  cases q1 : rd e2 x with
  | none => rw [q1] at h2; exact h2.elim
  | some d1 =>
    cases q2 : rd e2 y with
    | none => rw [q1, q2] at h2; exact h2.elim
    | some d2 =>
      rw [q1, q2] at h2
      simp only at h2
      cases q3 : g d1 d2 with
      | none => rw [q3] at h2; exact h2.elim
      | some d =>
        rw [q3] at h2
        exact hr F2 H2 v u d1 d2 d S2.fh (S2.tp (r1.mono l2) q1) (S2.tp r2 q2) q3 Q fun v' H' res =>
          let ⟨F', l', S', z⟩ := res.fin S2
          h2 v' H' F' ((l1.trans l2).trans l') S' z
theorem je_op2 {op : Operator} {r : R2} {g : D → D → Option D} (ho : OpR X (binaryOp op) r) (hr : RD2 X.K r g) (ha : JE X W a fa) (hb : JE X W b fb) : JE X W (.BinOp a op b pos) (eOp2 g fa fb) :=
  PE.imp (pe_op ho ha hb) fun _ _ _ h => run2 hr h
theorem je_cmp {op : CmpOp} {r : R2} {g : D → D → Option D} (ho : OpR X (compareOp op) r) (hr : RD2 X.K r g) (ha : JE X W a fa) (hb : JE X W b fb) (hm : behindInMarks op b = false) : JE X W (.Compare a [op] [b] pos) (eOp2 g fa fb) :=
  PE.imp (pe_cmpR ho ha hb hm) fun _ _ _ h => run2 hr h
/-- from a value to a test -/
theorem toT {f : M Vd} {σ : St} {H : Hp} {Q : Bool → Hp → Prop} (h : tT X.K W (bT f) σ H Q) : tE X.K W f σ H (fun x H' => ∃ k, x = .bl k ∧ Q k H') := by
  obtain ⟨B, F, env, S, h⟩ := h
  refine tE_in S .refl h.bnd fun x e1 v H1 F1 l1 S1 r1 h1 => ?_
  cases q1 : rd e1 x with
  | none => rw [q1] at h1; exact h1.elim
  | some d =>
    rw [q1] at h1
    cases d with
    | bool c =>
      have t := S1.tp r1 q1
      cases t
      exact ⟨c, rfl, h1 H1 F1 l1 S1⟩
    | _ => exact h1.elim
theorem jt_cmp {op : CmpOp} {r : R2} {g : D → D → Option D} (ho : OpR X (compareOp op) r) (hr : RD2 X.K r g) (ha : JE X W a fa) (hb : JE X W b fb) (hm : behindInMarks op b = false) : JT X W (.Compare a [op] [b] pos) (bT (eOp2 g fa fb)) :=
  PT.imp (pt_cmpR ho ha hb hm) fun _ _ _ h => run2 hr (toT h)
theorem jt_val {e : Expr} {f : M Vd} (h : JE X W e f) (he : ∀ whole, isTrue e X.env whole = (do let v ← whole; standAt e.pos; holding [v] (truthy v)) := by intro _; rfl) : JT X W e (bT f) :=
  PT.imp (pt_val h he) fun _ _ _ h => toT h
def eChain (g g' : D → D → Option D) (fa fb fc : M Vd) : M Vd := fun env => (fa env).bnd fun x e1 => (fb e1).bnd fun y e2 => (lift2 g (rd e2 x) (rd e2 y) e2).bnd fun z e3 => match rd e3 z with
  | some (.bool true) => (fc e3).bnd fun w e4 => lift2 g' (rd e4 y) (rd e4 w) e4
  | some (.bool false) => .ok (.dat (.bool false)) e3
  | _ => .bad
theorem lift2_in {K : PySem.W.Frag} {B : Bs} {F : Hp} {e : En} {σ : St} {H : Hp} {g : D → D → Option D} {r : R2} (hr : RD2 K r g) {x y : Vd} {v u : V} (S : SR K B F e σ H) (rx : VR K F σ v x) (ry : VR K F σ u y) {P : Vd → En → Prop} {E : Str → En → Prop} {Q : VK}
    (h : Rs (lift2 g (rd e x) (rd e y) e) P E) (k : ∀ d v' H' F', Le F F' → SR K B F' e σ H' → Dq K F' v' d → P (.dat d) e → Q v' H') : r v u H Q := by
  unfold lift2 at h
  cases q1 : rd e x with
  | none => rw [q1] at h; exact h.elim
  | some d1 =>
    cases q2 : rd e y with
    | none => rw [q1, q2] at h; exact h.elim
    | some d2 =>
      rw [q1, q2] at h
      simp only at h
      cases q3 : g d1 d2 with
      | none => rw [q3] at h; exact h.elim
      | some d =>
        rw [q3] at h
        exact hr F H v u d1 d2 d S.fh (S.tp rx q1) (S.tp ry q2) q3 Q fun v' H' res =>
          let ⟨F', l', S', z⟩ := res.fin S
          k d v' H' F' l' S' z h
theorem runChain {g g' : D → D → Option D} {r r' : R2} (hr : RD2 X.K r g) (hr' : RD2 X.K r' g') {σ : St} {H : Hp} {Q : VK} (h : tE X.K W (eChain g g' fa fb fc) σ H Q) : tChain r r' (tE X.K W fa) (tE X.K W fb) (tE X.K W fc) σ H Q := by
  obtain ⟨B, F, env, S, h⟩ := h
  refine tE_in S .refl h.bnd fun x e1 v H1 F1 l1 S1 r1 h1 => ?_
  refine tE_in S1 l1 h1.bnd fun y e2 u H2 F2 l2 S2 r2 h2 => ?_
  refine lift2_in hr S2 (r1.mono l2) r2 h2.bnd fun d v' H3 F3 l3 S3 z h3 => ?_
  have e0 : rd e2 (.dat d) = some d := rfl
  rw [e0] at h3
  cases d with
  | bool k =>
    cases z
    refine ⟨k, rfl, ?_⟩
    cases k with
    | true =>
      rw [if_pos rfl]
      refine tE_in S3 ((l1.trans l2).trans l3) h3.bnd fun w e4 v4 H4 F4 l4 S4 r4 h4 => ?_
      exact lift2_in hr' S4 ((r2.mono l3).mono l4) r4 h4 fun d v5 H5 F5 l5 S5 z5 h5 => h5 v5 H5 F5 ((((l1.trans l2).trans l3).trans l4).trans l5) S5 z5
    | false =>
      rw [if_neg Bool.false_ne_true]
      exact h3 (.bl false) H3 F3 ((l1.trans l2).trans l3) S3 (.bl false)
  | _ => exact h3.elim
theorem je_chain {op op' : CmpOp} {r r' : R2} {g g' : D → D → Option D} (ho : OpR X (compareOp op) r) (hr : RD2 X.K r g) (ho' : OpR X (compareOp op') r') (hr' : RD2 X.K r' g') (ha : JE X W a fa) (hb : JE X W b fb) (hc : JE X W c fc)
    (hm : lastMarks [op, op'] [b, c] = false := by with_unfolding_all rfl) : JE X W (.Compare a [op, op'] [b, c] pos) (eChain g g' fa fb fc) :=
  PE.imp (pe_chain ho ho' ha hb hc hm) fun _ _ _ h => runChain hr hr' h
theorem jt_chain {op op' : CmpOp} {r r' : R2} {g g' : D → D → Option D} (ho : OpR X (compareOp op) r) (hr : RD2 X.K r g) (ho' : OpR X (compareOp op') r') (hr' : RD2 X.K r' g') (ha : JE X W a fa) (hb : JE X W b fb) (hc : JE X W c fc)
    (hm : lastMarks [op, op'] [b, c] = false := by with_unfolding_all rfl) : JT X W (.Compare a [op, op'] [b, c] pos) (bT (eChain g g' fa fb fc)) :=
  PT.imp (pt_chain ho ho' ha hb hc hm) fun _ _ _ h => runChain hr hr' (toT h)
/-! and, or, not, if as values -/
theorem je_one {op} (h : JE X W a fa) : JE X W (.BoolOp op [a] pos) fa := pe_one h
theorem je_and {rest : List Expr} (ha : JE X W a fa) (hb : JE X W (.BoolOp .And (b :: rest) pos) fb) : JE X W (.BoolOp .And (a :: b :: rest) pos) (eAnd fa fb) := by
  refine PE.imp (pe_and ha hb) fun σ H Q h => ?_
  obtain ⟨B, F, env, S, h⟩ := h
  refine tE_in S .refl h.bnd fun x e1 v H1 F1 l1 S1 r1 h1 => ?_
  cases q1 : rd e1 x with
  | none => rw [q1] at h1; exact h1.elim
  | some d =>
    rw [q1] at h1
    cases d with
    | bool c =>
      have t := S1.tp r1 q1
      cases t
      refine ⟨c, rfl, ?_⟩
      cases c with
      | true => rw [if_pos rfl]; exact tE_in S1 l1 h1 fun y e2 u H2 F2 l2 S2 r2 h2 => h2 u H2 F2 (l1.trans l2) S2 r2
      | false => rw [if_neg Bool.false_ne_true]; exact h1 _ H1 F1 l1 S1 (.bl false)
    | _ => exact h1.elim
theorem je_or {rest : List Expr} (ha : JE X W a fa) (hb : JE X W (.BoolOp .Or (b :: rest) pos) fb) : JE X W (.BoolOp .Or (a :: b :: rest) pos) (eOr fa fb) := by
  refine PE.imp (pe_or ha hb) fun σ H Q h => ?_
  obtain ⟨B, F, env, S, h⟩ := h
  refine tE_in S .refl h.bnd fun x e1 v H1 F1 l1 S1 r1 h1 => ?_
  cases q1 : rd e1 x with
  | none => rw [q1] at h1; exact h1.elim
  | some d =>
    rw [q1] at h1
    cases d with
    | bool c =>
      have t := S1.tp r1 q1
      cases t
      refine ⟨c, rfl, ?_⟩
      cases c with
      | false => rw [if_neg Bool.false_ne_true]; exact tE_in S1 l1 h1 fun y e2 u H2 F2 l2 S2 r2 h2 => h2 u H2 F2 (l1.trans l2) S2 r2
      | true => rw [if_pos rfl]; exact h1 _ H1 F1 l1 S1 (.bl true)
    | _ => exact h1.elim
theorem je_not (ha : JE X W a fa) : JE X W (.UnaryOp .Not a pos) (eNot fa) := by
  refine PE.imp (pe_not ha) fun σ H Q h => ?_
  obtain ⟨B, F, env, S, h⟩ := h
  refine tE_in S .refl h.bnd fun x e1 v H1 F1 l1 S1 r1 h1 => ?_
  cases q1 : rd e1 x with
  | none => rw [q1] at h1; exact h1.elim
  | some d =>
    rw [q1] at h1
    cases d with
    | bool c =>
      have t := S1.tp r1 q1
      cases t
      exact ⟨c, rfl, h1 _ H1 F1 l1 S1 (.bl _)⟩
    | _ => exact h1.elim
theorem je_if {ft : M Bool} (hc : JT X W c ft) (ha : JE X W a fa) (hb : JE X W b fb) : JE X W (.IfExp c a b pos) (eIf ft fa fb) := by
  refine PE.imp (pe_ifExp hc ha hb) fun σ H Q h => ?_
  obtain ⟨B, F, env, S, h⟩ := h
  refine tT_in S .refl h.bnd fun k e1 H1 F1 l1 S1 h1 => ?_
  cases k with
  | true => rw [if_pos rfl] at h1 ⊢; exact tE_in S1 l1 h1 fun y e2 u H2 F2 l2 S2 r2 h2 => h2 u H2 F2 (l1.trans l2) S2 r2
  | false => rw [if_neg Bool.false_ne_true] at h1 ⊢; exact tE_in S1 l1 h1 fun y e2 u H2 F2 l2 S2 r2 h2 => h2 u H2 F2 (l1.trans l2) S2 r2
/-! tests -/
abbrev JW (X : Cx) (W : WX) (e : Expr) (f : M Bool) : Prop := PW X e (tT X.K W f)
theorem PW.imp {X : Cx} {e : Expr} {t t' : TT} (h : PW X e t) (k : ∀ σ H Q, t' σ H Q → t σ H Q) : PW X e t' := ⟨fun wh pins s σ H Q I q => h.run wh pins s σ H Q I (k σ H Q q)⟩
variable {ga gb : M Bool}
theorem jw_and1 (h : JT X W a ga) : JW X W (.BoolOp .And [a] pos) ga := pw_and1 h
theorem jw_or1 (h : JT X W a ga) : JW X W (.BoolOp .Or [a] pos) ga := pw_or1 h
theorem jw_and {rest : List Expr} (ha : JT X W a ga) (hb : JW X W (.BoolOp .And (b :: rest) pos) gb) : JW X W (.BoolOp .And (a :: b :: rest) pos) (bAnd ga gb) := by
  refine PW.imp (pw_and ha hb) fun σ H Q h => ?_
  obtain ⟨B, F, env, S, h⟩ := h
  refine tT_in S .refl h.bnd fun k e1 H1 F1 l1 S1 h1 => ?_
  cases k with
  | true => rw [if_pos rfl] at h1 ⊢; exact tT_in S1 l1 h1 fun y e2 H2 F2 l2 S2 h2 => h2 H2 F2 (l1.trans l2) S2
  | false => rw [if_neg Bool.false_ne_true] at h1 ⊢; exact h1 H1 F1 l1 S1
theorem jw_or {rest : List Expr} (ha : JT X W a ga) (hb : JW X W (.BoolOp .Or (b :: rest) pos) gb) : JW X W (.BoolOp .Or (a :: b :: rest) pos) (bOr ga gb) := by
  refine PW.imp (pw_or ha hb) fun σ H Q h => ?_
  obtain ⟨B, F, env, S, h⟩ := h
  refine tT_in S .refl h.bnd fun k e1 H1 F1 l1 S1 h1 => ?_
  cases k with
  | true => rw [if_pos rfl] at h1 ⊢; exact h1 H1 F1 l1 S1
  | false => rw [if_neg Bool.false_ne_true] at h1 ⊢; exact tT_in S1 l1 h1 fun y e2 H2 F2 l2 S2 h2 => h2 H2 F2 (l1.trans l2) S2
theorem jw_t {e : Expr} {g : M Bool} (h : JW X W e g) : JT X W e g := PW.pt h
theorem jt_not (ha : JT X W a ga) : JT X W (.UnaryOp .Not a pos) (bNot ga) := by
  refine PT.imp (pt_not ha) fun σ H Q h => ?_
  obtain ⟨B, F, env, S, h⟩ := h
  exact tT_in S .refl h.bnd fun k e1 H1 F1 l1 S1 h1 => h1 H1 F1 l1 S1
/-! arguments, displays -/
theorem ja_nil : JA X W [] aNil := PA.imp pa_nil fun σ H Q h => by
  obtain ⟨B, F, env, S, h⟩ := h
  exact h [] H F .refl S .nil
theorem ja_cons {es : List Expr} {fr : M (List Vd)} (ha : JE X W a fa) (hr : JA X W es fr) (hs : starEach (a :: es) X.env = (false, eval a X.env) :: starEach es X.env := by rfl) : JA X W (a :: es) (aCons fa fr) := by
  refine PA.imp (pa_cons ha hr hs) fun σ H Q h => ?_
  obtain ⟨B, F, env, S, h⟩ := h
  refine tE_in S .refl h.bnd fun x e1 v H1 F1 l1 S1 r1 h1 => ?_
  refine tA_in S1 l1 h1.bnd fun xs e2 vs H2 F2 l2 S2 r2 h2 => ?_
  exact h2 (v :: vs) H2 F2 (l1.trans l2) S2 (.cons (r1.mono l2) r2)
theorem SR.fzAll {K : PySem.W.Frag} {B : Bs} {σ : St} {H : Hp} : ∀ {xs : List Vd} {vs : List V} {F : Hp} {env env' : En} {ds : List D}, SR K B F env σ H → VRs K F σ vs xs → Pf.fzAll xs env = .ok ds env' → ∃ F', Le F F' ∧ SR K B F' env' σ H ∧ DqAll K F' vs ds
  | [], _, F, env, env', ds, S, .nil, e => by
    cases (show R.ok ([] : List D) env = R.ok ds env' from e)
    exact ⟨F, .refl, S, .nil⟩
  | x :: xs, _, F, env, env', ds, S, .cons r rs, e => by
    unfold Pf.fzAll at e
    cases q : Pf.fz x env with
    | bad => rw [q] at e; cases e
    | exc c e' => rw [q] at e; cases e
    | ok d e1 =>
      rw [q] at e
      have e : (Pf.fzAll xs e1).bnd (fun ds e => R.ok (d :: ds) e) = R.ok ds env' := e
      obtain ⟨F1, l1, S1, d1⟩ := S.fz r q
      cases q2 : Pf.fzAll xs e1 with
      | bad => rw [q2] at e; cases e
      | exc c e' => rw [q2] at e; cases e
      | ok ds' e2 =>
        rw [q2] at e
        cases (show R.ok (d :: ds') e2 = R.ok ds env' from e)
        obtain ⟨F2, l2, S2, d2⟩ := SR.fzAll S1 (rs.mono l1) q2
        exact ⟨F2, l1.trans l2, S2, .cons (l2.dq d1) d2⟩
theorem fzAll_in {K : PySem.W.Frag} {B : Bs} {F : Hp} {e : En} {σ : St} {H : Hp} {xs : List Vd} {vs : List V} (S : SR K B F e σ H) (r : VRs K F σ vs xs) {P : List D → En → Prop} {E : Str → En → Prop} {Q : Prop} (h : Rs (Pf.fzAll xs e) P E) (hE : ∀ c e', fzAll xs e ≠ .exc c e')
    (k : ∀ ds e' F', Le F F' → SR K B F' e' σ H → DqAll K F' vs ds → P ds e' → Q) : Q := by
  cases q : Pf.fzAll xs e with
  | bad => rw [q] at h; exact h.elim
  | exc c e' => exact absurd q (hE c e')
  | ok ds e' =>
    rw [q] at h
    obtain ⟨F', l, S', d⟩ := SR.fzAll S r q
    exact k ds e' F' l S' d h
theorem fz_noexc (x : Vd) (env : En) (c : Str) (e' : En) : fz x env ≠ .exc c e' := by
  intro h
  unfold fz at h
  split at h
  · cases h
  · split at h <;> cases h
theorem fzAll_noexc : ∀ (xs : List Vd) (env : En) (c : Str) (e' : En), fzAll xs env ≠ .exc c e'
  | [], _, _, _, h => by cases h
  | x :: xs, env, c, e', h => by
    unfold fzAll at h
    cases q : Pf.fz x env with
    | bad => rw [q] at h; cases h
    | exc c2 e2 => exact fz_noexc _ _ _ _ q
    | ok d e1 =>
      rw [q] at h
      have h : (Pf.fzAll xs e1).bnd (fun ds e => R.ok (d :: ds) e) = R.exc c e' := h
      cases q2 : Pf.fzAll xs e1 with
      | bad => rw [q2] at h; cases h
      | exc c2 e2 => exact fzAll_noexc _ _ _ _ q2
      | ok ds e2 => rw [q2] at h; cases h
theorem jn_lst {es : List Expr} {f : M (List Vd)} (h : JA X W es f) : JN X W (.List es pos) (nLst f) := by
  refine PE.imp (pe_lst h) fun σ H Q h => ?_
  obtain ⟨B, F, env, S, h⟩ := h
  refine tA_in S .refl h.bnd fun xs e1 vs H1 F1 l1 S1 r1 h1 => ?_
  refine fzAll_in S1 r1 h1.bnd (fzAll_noexc _ _) fun ds e2 F2 l2 S2 d2 h2 => ?_
  split at h2
  · rename_i z
    refine ⟨by rw [dqAll_len d2]; exact szL_line z, fun p n => ?_⟩
    obtain ⟨S3, fr⟩ := S2.fresh n d2
    exact h2 p _ F2 (l1.trans l2) S3 fr
  · exact h2.elim
theorem je_tup {es : List Expr} {f : M (List Vd)} {k} (h : JA X W es f) : JE X W (.Tuple es k pos) (eTup f) := by
  refine PE.imp (pe_tup h) fun σ H Q h => ?_
  obtain ⟨B, F, env, S, h⟩ := h
  refine tA_in S .refl h.bnd fun xs e1 vs H1 F1 l1 S1 r1 h1 => ?_
  refine fzAll_in S1 r1 h1.bnd (fzAll_noexc _ _) fun ds e2 F2 l2 S2 d2 h2 => ?_
  split at h2
  · rename_i z
    refine ⟨by rw [dqAll_len d2]; exact szL_line z, fun p n => ?_⟩
    have nF := S2.fh.none n
    exact h2 _ _ _ ((l1.trans l2).trans (Le.upd nF)) (S2.alloc n) (.tup (SqT.of upd_same) ((Le.upd nF).dqAll d2))
  · exact h2.elim
/-- a new list as data -/
theorem je_new {e : Expr} {f : M (List D)} (h : JN X W e f) : JE X W e (eN f) := by
  refine PE.imp h fun σ H Q h => ?_
  obtain ⟨B, F, env, S, h⟩ := h
  refine tN_in S .refl h.bnd fun ds e1 p H1 F1 l1 S1 fr h1 => ?_
  obtain ⟨F', l', S', d⟩ := S1.frzN fr
  exact h1 _ H1 F' (l1.trans l') S' d
end
end Pf
namespace Pf
open PySem L2
/-! ### operators by data -/
def inR (i : Int) : Bool := Nat.blt i.natAbs 18446744073709551616
/-- a count of times -/
def inK (i : Int) : Bool := Nat.blt i.natAbs 9223372036854775808
theorem inK_ok {i : Int} (h : inK i = true) : -(2 ^ 63) ≤ i ∧ i < 2 ^ 63 := by
  unfold inK at h
  have h := Nat.blt_eq.mp h
  omega
def gAdd : D → D → Option D
  | .int i, .int j => some (.int (i + j))
  | .list xs, .list ys => if szL (xs.length + ys.length) = true then some (.list (xs ++ ys)) else none
  | .tuple xs, .tuple ys => if szL (xs.length + ys.length) = true then some (.tuple (xs ++ ys)) else none
  | .str x, .str y => if szL (x.length + y.length) = true then some (.str (x ++ y)) else none
  | _, _ => none
def gSub : D → D → Option D
  | .int i, .int j => some (.int (i - j))
  | _, _ => none
def gMul : D → D → Option D
  | .int i, .int j => if (inR i || inR j) = true then some (.int (i * j)) else none
  | .list xs, .int k => if (inK k && szL (xs.length * k.toNat)) = true then some (.list (List.replicate k.toNat xs).flatten) else none
  | .tuple xs, .int k => if decide (2 ≤ k ∧ k ≤ 1000 ∧ xs ≠ [] ∧ xs.length ≤ 1000) = true then some (.tuple (List.replicate k.toNat xs).flatten) else none
  | _, _ => none
def gFdiv : D → D → Option D
  | .int i, .int j => if decide (0 < j ∧ j < 1073741824) = true then some (.int (i / j)) else none
  | _, _ => none
def gMod : D → D → Option D
  | .int i, .int j => if decide (0 < j) = true then some (.int (i % j)) else none
  | _, _ => none
def gPow : D → D → Option D
  | .int i, .int j => if decide (0 ≤ j ∧ j ≤ 1000000 ∧ i.natAbs < 2 ^ 64) = true then some (.int (i ^ j.toNat)) else none
  | _, _ => none
def gCmp (p : Int → Int → Bool) : D → D → Option D
  | .int i, .int j => some (.bool (p i j))
  | _, _ => none
abbrev gLt := gCmp fun i j => decide (i < j)
abbrev gLe := gCmp fun i j => decide (i ≤ j)
abbrev gGt := gCmp fun i j => decide (j < i)
abbrev gGe := gCmp fun i j => decide (j ≤ i)
def gEq (a b : D) : Option D := if (SeqAt.shaped a && SeqAt.shaped b) = true then some (.bool (PyData.eqv a b)) else none
def gNe (a b : D) : Option D := if (SeqAt.shaped a && SeqAt.shaped b) = true then some (.bool (!PyData.eqv a b)) else none
def isNon : D → Bool
  | .none => true
  | _ => false
/-- is: None on the right, or two bools -/
def gIs (a b : D) : Option D := match b with
  | .none => some (.bool (isNon a))
  | .bool y => (match a with
    | .bool x => some (.bool (decide (x = y)))
    | _ => none)
  | _ => none
def gIsNot (a b : D) : Option D := match b with
  | .none => some (.bool (!isNon a))
  | .bool y => (match a with
    | .bool x => some (.bool (!decide (x = y)))
    | _ => none)
  | _ => none
/-- flat things -/
def flatD : D → Bool
  | .none => true
  | .bool _ => true
  | .int _ => true
  | .str _ => true
  | _ => false
def gIn (a b : D) : Option D := match b with
  | .list ds => if (SeqAt.shaped a && SeqAt.shaped (.list ds)) = true then some (.bool (ds.any fun z => PyData.eqv z a)) else none
  | .tuple ds => if (flatD a && ds.all flatD) = true then some (.bool (ds.any fun z => PyData.eqv z a)) else none
  | _ => none
def gNotIn (a b : D) : Option D := match b with
  | .list ds => if (SeqAt.shaped a && SeqAt.shaped (.list ds)) = true then some (.bool (!ds.any fun z => PyData.eqv z a)) else none
  | .tuple ds => if (flatD a && ds.all flatD) = true then some (.bool (!ds.any fun z => PyData.eqv z a)) else none
  | _ => none
theorem dqAll_repF {K : PySem.W.Frag} {F : Hp} {vs : List V} {ds : List D} (h : DqAll K F vs ds) : ∀ k, DqAll K F (List.replicate k vs).flatten (List.replicate k ds).flatten
  | 0 => .nil
  | k + 1 => by
    rw [List.replicate_succ, List.replicate_succ, List.flatten_cons, List.flatten_cons]
    exact dqAll_app h (dqAll_repF h k)
section
variable {X : Cx}
abbrev rAdd : PySem.W.Frag → R2 := fun K x y H Q => (rI0 fun i j => .int (i + j)) x y H Q ∨ rCat x y H Q ∨ rCatA K x y H Q ∨ ∃ i j, x = .str i ∧ y = .str j ∧ i.length + j.length ≤ sizeLine ∧ Q (.str (i ++ j)) H
theorem o_add : OpR X (binaryOp .Add) (rAdd X.K) := op_add.or (op_cat.or (op_catA.or op_add_str))
theorem d_add {K : PySem.W.Frag} : RD2 K (rAdd K) gAdd := by
  intro F H x y a b d l ta tb e Q k
  cases ta with
  | int i =>
    cases tb with
    | int j => cases e; exact .inl ⟨i, j, rfl, rfl, k _ H (.same (.int _))⟩
    | _ => cases e
  | str i =>
    cases tb with
    | str j =>
      unfold gAdd at e
      simp only at e
      split at e
      · rename_i z; cases e; exact .inr (.inr (.inr ⟨i, j, rfl, rfl, szL_line z, k _ H (.same (.str _))⟩))
      · cases e
    | _ => cases e
  | @lst p xs ds h1 h2 =>
    cases tb with
    | @lst q ys es g1 g2 =>
      unfold gAdd at e
      simp only at e
      split at e
      · rename_i z
        cases e
        refine .inr (.inl ⟨p, q, xs, ys, rfl, rfl, h1, g1, by rw [dqAll_len h2, dqAll_len g2]; exact szL_line z, fun r n => k _ _ (.lst n (dqAll_app h2 g2))⟩)
      · cases e
    | _ => cases e
  | @tup p xs ds h1 h2 =>
    cases tb with
    | @tup q ys es g1 g2 =>
      unfold gAdd at e
      simp only at e
      split at e
      · rename_i z
        cases e
        refine .inr (.inr (.inl ⟨p, q, xs, ys, rfl, rfl, l.sqT h1, l.sqT g1, by rw [dqAll_len h2, dqAll_len g2]; exact szL_line z, fun e0 => ?_, fun e0 e1 => ?_, fun e0 e1 r n => k _ _ (.tup n (dqAll_app h2 g2))⟩))
        · subst e0
          cases h2
          exact k _ H (.same (.tup g1 g2))
        · subst e1
          cases g2
          rw [List.append_nil] at k
          exact k _ H (.same (.tup h1 h2))
      · cases e
    | _ => cases e
  | _ => cases tb <;> cases e
theorem d_ints {K : PySem.W.Frag} {C : Int → Int → Prop} {f : Int → Int → V} {g : D → D → Option D} (hg : ∀ a b d, g a b = some d → ∃ i j, a = .int i ∧ b = .int j ∧ C i j ∧ ∀ F, Dq K F (f i j) d) : RD2 K (rI C f) g := by
  intro F H x y a b d l ta tb e Q k
  obtain ⟨i, j, rfl, rfl, c, q⟩ := hg a b d e
  cases ta
  cases tb
  exact ⟨i, j, rfl, rfl, c, k _ H (.same (q F))⟩
theorem d_ints0 {K : PySem.W.Frag} {f : Int → Int → V} {g : D → D → Option D} (hg : ∀ a b d, g a b = some d → ∃ i j, a = .int i ∧ b = .int j ∧ ∀ F, Dq K F (f i j) d) : RD2 K (rI0 f) g := by
  intro F H x y a b d l ta tb e Q k
  obtain ⟨i, j, rfl, rfl, q⟩ := hg a b d e
  cases ta
  cases tb
  exact ⟨i, j, rfl, rfl, k _ H (.same (q F))⟩
theorem d_sub {K : PySem.W.Frag} : RD2 K (rI0 fun i j => .int (i - j)) gSub := d_ints0 fun a b d e => by
  cases a <;> cases b <;> cases e
  exact ⟨_, _, rfl, rfl, fun _ => .int _⟩
theorem d_fdiv {K : PySem.W.Frag} : RD2 K (rI CDiv fun i j => .int (i / j)) gFdiv := d_ints fun a b d e => by
  cases a <;> cases b <;> try cases e
  unfold gFdiv at e
  simp only at e
  split at e
  · rename_i z; cases e; have z := of_decide_eq_true z; exact ⟨_, _, rfl, rfl, z, fun _ => .int _⟩
  · cases e
theorem d_mod {K : PySem.W.Frag} : RD2 K (rI (fun _ j => 0 < j) fun i j => .int (i % j)) gMod := d_ints fun a b d e => by
  cases a <;> cases b <;> try cases e
  unfold gMod at e
  simp only at e
  split at e
  · rename_i z; cases e; exact ⟨_, _, rfl, rfl, of_decide_eq_true z, fun _ => .int _⟩
  · cases e
theorem d_pow {K : PySem.W.Frag} : RD2 K (rI CPow fun i j => .int (i ^ j.toNat)) gPow := d_ints fun a b d e => by
  cases a <;> cases b <;> try cases e
  unfold gPow at e
  simp only at e
  split at e
  · rename_i z; cases e; have z := of_decide_eq_true z; exact ⟨_, _, rfl, rfl, z, fun _ => .int _⟩
  · cases e
theorem d_cmp {K : PySem.W.Frag} {p : Int → Int → Bool} : RD2 K (rI0 fun i j => .bl (p i j)) (gCmp p) := d_ints0 fun a b d e => by
  cases a <;> cases b <;> cases e
  exact ⟨_, _, rfl, rfl, fun _ => .bl _⟩
theorem d_eq {K : PySem.W.Frag} : RD2 K (rEqD K) gEq := by
  intro F H x y a b d l ta tb e Q k
  unfold gEq at e
  split at e
  · rename_i z
    cases e
    rw [Bool.and_eq_true] at z
    exact ⟨a, b, (ta.dq l).dp, (tb.dq l).dp, z.1, z.2, k _ H (.same (.bl _))⟩
  · cases e
theorem d_ne {K : PySem.W.Frag} : RD2 K (rNeD K) gNe := by
  intro F H x y a b d l ta tb e Q k
  unfold gNe at e
  split at e
  · rename_i z
    cases e
    rw [Bool.and_eq_true] at z
    exact ⟨a, b, (ta.dq l).dp, (tb.dq l).dp, z.1, z.2, k _ H (.same (.bl _))⟩
  · cases e
abbrev rMul : PySem.W.Frag → R2 := fun K x y H Q => (rI CMul fun i j => .int (i * j)) x y H Q ∨ rRep x y H Q ∨ rRepT K x y H Q
theorem o_mul : OpR X (binaryOp .Mult) (rMul X.K) := op_mul.or (op_rep.or op_repT)
theorem inR_ok {i : Int} (h : inR i = true) : -(2 ^ 64) < i ∧ i < 2 ^ 64 := by
  unfold inR at h
  have h := Nat.blt_eq.mp h
  omega
theorem d_mul {K : PySem.W.Frag} : RD2 K (rMul K) gMul := by
  intro F H x y a b d l ta tb e Q k
  cases ta with
  | int i =>
    cases tb with
    | int j =>
      unfold gMul at e
      simp only at e
      split at e
      · rename_i z
        cases e
        rw [Bool.or_eq_true] at z
        exact .inl ⟨i, j, rfl, rfl, z.elim (fun z => .inl (inR_ok z)) (fun z => .inr (inR_ok z)), k _ H (.same (.int _))⟩
      · cases e
    | _ => cases e
  | @lst p xs ds h1 h2 =>
    cases tb with
    | int j =>
      unfold gMul at e
      simp only at e
      split at e
      · rename_i z
        cases e
        rw [Bool.and_eq_true] at z
        have z1 := inK_ok z.1
        refine .inr (.inl ⟨p, j, xs, rfl, rfl, h1, z1.1, z1.2, by rw [dqAll_len h2]; exact szL_line z.2, fun r n => k _ _ (.lst n (dqAll_repF h2 _))⟩)
      · cases e
    | _ => cases e
  | @tup p xs ds h1 h2 =>
    cases tb with
    | int j =>
      unfold gMul at e
      simp only at e
      split at e
      · rename_i z
        cases e
        obtain ⟨z1, z2, z3, z4⟩ := of_decide_eq_true z
        refine .inr (.inr ⟨p, j, xs, rfl, rfl, l.sqT h1, fun q => z3 ?_, z1, z2, by rw [dqAll_len h2]; exact z4, fun r n => k _ _ (.tup n (dqAll_repF h2 _))⟩)
        subst q
        cases h2
        rfl
      · cases e
    | _ => cases e
  | _ => cases tb <;> cases e
abbrev rIsA : R2 := fun x y H Q => (y = .non ∧ Q (.bl (decide (x = .non))) H) ∨ ∃ a b, x = .bl a ∧ y = .bl b ∧ Q (.bl (decide (a = b))) H
abbrev rIsNA : R2 := fun x y H Q => (y = .non ∧ Q (.bl (!decide (x = .non))) H) ∨ ∃ a b, x = .bl a ∧ y = .bl b ∧ Q (.bl (!decide (a = b))) H
theorem o_is : OpR X (compareOp .Is) rIsA := op_isN.or op_is_bl
theorem o_isnot : OpR X (compareOp .IsNot) rIsNA := op_notN.or op_isnot_bl
theorem tp_non {K : PySem.W.Frag} {F H : Hp} {x : V} {a : D} (t : Tp K F H x a) : decide (x = .non) = isNon a := by
  cases t <;> rfl
theorem d_is {K : PySem.W.Frag} : RD2 K rIsA gIs := by
  intro F H x y a b d l ta tb e Q k
  cases tb with
  | non => cases e; exact .inl ⟨rfl, k _ H (.same (by rw [tp_non ta]; exact .bl _))⟩
  | bl j =>
    cases ta with
    | bl i => cases e; exact .inr ⟨i, j, rfl, rfl, k _ H (.same (.bl _))⟩
    | _ => cases e
  | _ => cases e
theorem d_isnot {K : PySem.W.Frag} : RD2 K rIsNA gIsNot := by
  intro F H x y a b d l ta tb e Q k
  cases tb with
  | non => cases e; exact .inl ⟨rfl, k _ H (.same (by rw [tp_non ta]; exact .bl _))⟩
  | bl j =>
    cases ta with
    | bl i => cases e; exact .inr ⟨i, j, rfl, rfl, k _ H (.same (.bl _))⟩
    | _ => cases e
  | _ => cases e
theorem flat_v {K : PySem.W.Frag} {F : Hp} {v : V} {d : D} (h : Dq K F v d) (f : flatD d = true) : flatV v = true := by
  cases h <;> first | rfl | cases f
theorem eq_flat {K : PySem.W.Frag} {F : Hp} {v u : V} {d e : D} (h : Dq K F v d) (g : Dq K F u e) (f : flatD d = true) (f' : flatD e = true) : eqV v u = PyData.eqv d e := by
  cases h <;> cases g <;> first | (simp only [eqV, PyData.eqv]; done) | (exfalso; exact Bool.false_ne_true f) | (exfalso; exact Bool.false_ne_true f')
theorem flat_all {K : PySem.W.Frag} {F : Hp} : ∀ {vs : List V} {ds : List D}, DqAll K F vs ds → ds.all flatD = true → vs.all flatV = true
  | _, _, .nil, _ => rfl
  | _, _, .cons a b, f => by
    rw [List.all_cons, Bool.and_eq_true] at f ⊢
    exact ⟨flat_v a f.1, flat_all b f.2⟩
theorem any_flat {K : PySem.W.Frag} {F : Hp} {v : V} {d : D} (h : Dq K F v d) (f : flatD d = true) : ∀ {vs : List V} {ds : List D}, DqAll K F vs ds → ds.all flatD = true → inV v vs = ds.any fun z => PyData.eqv z d
  | _, _, .nil, _ => rfl
  | _, _, .cons a b, f' => by
    rw [List.all_cons, Bool.and_eq_true] at f'
    unfold inV
    rw [List.any_cons, List.any_cons, eq_flat a h f'.1 f]
    have := any_flat h f b f'.2
    unfold inV at this
    rw [this]
abbrev rInA : PySem.W.Frag → R2 := fun K x y H Q => rInD K x y H Q ∨ rIn K false x y H Q
abbrev rNotInA : PySem.W.Frag → R2 := fun K x y H Q => rNotInD K x y H Q ∨ rIn K true x y H Q
theorem o_in (hu : X.A.units + 65 < cLine) : OpR X (compareOp .In) (rInA X.K) := (op_inD hu).or op_in_seq
theorem o_notin (hu : X.A.units + 65 < cLine) : OpR X (compareOp .NotIn) (rNotInA X.K) := (op_notInD hu).or op_notIn_seq
theorem Tp.flat {K : PySem.W.Frag} {F H : Hp} {x : V} {a : D} (t : Tp K F H x a) (f : flatD a = true) : Dq K F x a := by
  cases t <;> first | exact .non | exact .bl _ | exact .int _ | exact .str _ | cases f
theorem d_in {K : PySem.W.Frag} : RD2 K (rInA K) gIn := by
  intro F H x y a b d l ta tb e Q k
  cases tb with
  | @lst q ys es g1 g2 =>
    unfold gIn at e
    simp only at e
    split at e
    · rename_i z
      cases e
      rw [Bool.and_eq_true] at z
      exact .inl ⟨a, es, (ta.dq l).dp, (Dq.lst g1 (l.dqAll g2)).dp, z.1, z.2, k _ H (.same (.bl _))⟩
    · cases e
  | @tup q ys es g1 g2 =>
    unfold gIn at e
    simp only at e
    split at e
    · rename_i z
      cases e
      rw [Bool.and_eq_true] at z
      refine .inr ⟨q, ys, rfl, .inr (l.sqT g1), flat_v (ta.flat z.1) z.1, flat_all g2 z.2, ?_⟩
      rw [if_neg Bool.false_ne_true, any_flat (ta.flat z.1) z.1 g2 z.2]
      exact k _ H (.same (.bl _))
    · cases e
  | _ => cases e
theorem d_notin {K : PySem.W.Frag} : RD2 K (rNotInA K) gNotIn := by
  intro F H x y a b d l ta tb e Q k
  cases tb with
  | @lst q ys es g1 g2 =>
    unfold gNotIn at e
    simp only at e
    split at e
    · rename_i z
      cases e
      rw [Bool.and_eq_true] at z
      exact .inl ⟨a, es, (ta.dq l).dp, (Dq.lst g1 (l.dqAll g2)).dp, z.1, z.2, k _ H (.same (.bl _))⟩
    · cases e
  | @tup q ys es g1 g2 =>
    unfold gNotIn at e
    simp only at e
    split at e
    · rename_i z
      cases e
      rw [Bool.and_eq_true] at z
      refine .inr ⟨q, ys, rfl, .inr (l.sqT g1), flat_v (ta.flat z.1) z.1, flat_all g2 z.2, ?_⟩
      rw [if_pos rfl, any_flat (ta.flat z.1) z.1 g2 z.2]
      exact k _ H (.same (.bl _))
    · cases e
  | _ => cases e
/-! ### unary, items, slices -/
def gNeg : D → Option D
  | .int i => some (.int (-i))
  | _ => none
variable {W : WX} {a b : Expr} {fa fb : M Vd} {pos : Pos}
theorem je_neg (ha : JE X W a fa) : JE X W (.UnaryOp .USub a pos) (eOp1 gNeg fa) := by
  refine PE.imp (pe_un un_neg ha) fun σ H Q h => ?_
  obtain ⟨B, F, env, S, h⟩ := h
  refine tE_in S .refl h.bnd fun x e1 v H1 F1 l1 S1 r1 h1 => ?_
  unfold lift1 at h1
  cases q1 : rd e1 x with
  | none => rw [q1] at h1; exact h1.elim
  | some d =>
    rw [q1] at h1
    have t := S1.tp r1 q1
    cases t with
    | int i => exact ⟨i, rfl, h1 _ H1 F1 l1 S1 (.int _)⟩
    | _ => exact h1.elim
def gIx : D → D → Option D
  | .list ds, .int i => atI ds i
  | .tuple ds, .int i => atI ds i
  | _, _ => none
theorem at_dq {K : PySem.W.Frag} {F : Hp} {vs : List V} {ds : List D} {i : Int} {d : D} (h : DqAll K F vs ds) (e : atI ds i = some d) : ∃ v, atI vs i = some v ∧ Dq K F v d := by
  unfold atI at e ⊢
  rw [dqAll_len h]
  cases q : ixN ds.length i with
  | none => rw [q] at e; cases e
  | some j =>
    rw [q] at e
    exact dqAll_get h e
abbrev rIxA : PySem.W.Frag → R2 := fun K => rIx K
theorem d_ix {K : PySem.W.Frag} : RD2 K (rIx K) gIx := by
  intro F H x y a b d l ta tb e Q k
  cases ta with
  | @lst p xs ds h1 h2 =>
    cases tb with
    | int j =>
      obtain ⟨v, e1, e2⟩ := at_dq h2 e
      exact .inl ⟨p, xs, j, v, rfl, rfl, SqL.of h1, e1, k v H (.same e2)⟩
    | _ => cases e
  | @tup p xs ds h1 h2 =>
    cases tb with
    | int j =>
      obtain ⟨v, e1, e2⟩ := at_dq h2 e
      exact .inr (.inl ⟨p, xs, j, v, rfl, rfl, l.sqT h1, e1, k v H (.same e2)⟩)
    | _ => cases e
  | _ => cases tb <;> cases e
theorem je_ix (ha : JE X W a fa) (hb : JE X W b fb) (hs : PlainIx b := by exact fun _ _ => rfl) : JE X W (.Subscript a b pos) (eOp2 gIx fa fb) :=
  PE.imp (pe_ix ix_seq ha hb hs) fun _ _ _ h => run2 d_ix h
/-! slices -/
def oNone : M (Option Int) := fun env => .ok none env
def oSome (f : M Vd) : M (Option Int) := fun env => (f env).bnd fun x e => match rd e x with
  | some (.int i) => .ok (some i) e
  | _ => .bad
def tO (K : PySem.W.Frag) (W : WX) (f : M (Option Int)) : TO := fun σ H Q => ∃ B F env, SR K B F env σ H ∧ Rs (f env) (fun o e => ∀ H' F', Le F F' → SR K B F' e σ H' → Q o H') (xW W K B F σ)
abbrev JO (X : Cx) (W : WX) (e : Option Expr) (f : M (Option Int)) : Prop := PO X e (tO X.K W f)
theorem PO.imp {X : Cx} {e : Option Expr} {t t' : TO} (h : PO X e t) (k : ∀ σ H Q, t' σ H Q → t σ H Q) : PO X e t' := ⟨fun pins s σ H Q I q => h.run pins s σ H Q I (k σ H Q q)⟩
theorem tO_in {K : PySem.W.Frag} {B : Bs} {F G : Hp} {env : En} {σ : St} {H : Hp} {f : M (Option Int)} {P : Option Int → En → Prop} {Q : Option Int → Hp → Prop} (S : SR K B F env σ H) (l : Le G F) (h : Rs (f env) P (xW W K B G σ)) (k : ∀ b e H' F', Le F F' → SR K B F' e σ H' → P b e → Q b H') : tO K W f σ H Q :=
  ⟨B, F, env, S, h.mono (fun vd e p H' F' l' S' => k vd e H' F' l' S' p) (fun c e q => xW.mono l q)⟩
theorem jo_none : JO X W none oNone := PO.imp po_none fun σ H Q h => by
  obtain ⟨B, F, env, S, h⟩ := h
  exact h H F .refl S
theorem jo_some (ha : JE X W a fa) : JO X W (some a) (oSome fa) := by
  refine PO.imp (po_some ha) fun σ H Q h => ?_
  obtain ⟨B, F, env, S, h⟩ := h
  refine tE_in S .refl h.bnd fun x e1 v H1 F1 l1 S1 r1 h1 => ?_
  cases q1 : rd e1 x with
  | none => rw [q1] at h1; exact h1.elim
  | some d =>
    rw [q1] at h1
    have t := S1.tp r1 q1
    cases t with
    | int i => exact ⟨i, rfl, h1 H1 F1 l1 S1⟩
    | _ => exact h1.elim
def cutD (xs : List D) (lo hi : Option Int) : List D := (xs.drop (HT.sIx xs.length 0 lo)).take (HT.sIx xs.length xs.length hi - HT.sIx xs.length 0 lo)
def gCut (lo hi : Option Int) : D → Option D
  | .list ds => some (.list (cutD ds lo hi))
  | .tuple ds => some (.tuple (cutD ds lo hi))
  | _ => none
def eCut (fa : M Vd) (fl fh : M (Option Int)) : M Vd := fun env => (fa env).bnd fun x e1 => (fl e1).bnd fun lo e2 => (fh e2).bnd fun hi e3 => lift1 (gCut lo hi) (rd e3 x) e3
theorem dqAll_cut {K : PySem.W.Frag} {F : Hp} {vs : List V} {ds : List D} (h : DqAll K F vs ds) (lo hi : Option Int) : DqAll K F (cutV vs lo hi) (cutD ds lo hi) := by
  unfold cutV cutD
  rw [dqAll_len h]
  exact dqAll_take _ (dqAll_drop _ h)
theorem je_cut {lo hi : Option Expr} {fl fh : M (Option Int)} {p2 : Pos} (ha : JE X W a fa) (hl : JO X W lo fl) (hu : JO X W hi fh) : JE X W (.Subscript a (.Slice lo hi none p2) pos) (eCut fa fl fh) := by
  refine PE.imp (pe_slice (sl_list.or sl_tupA) ha hl hu) fun σ H Q h => ?_
  obtain ⟨B, F, env, S, h⟩ := h
  refine tE_in S .refl h.bnd fun x e1 v H1 F1 l1 S1 r1 h1 => ?_
  refine tO_in S1 l1 h1.bnd fun lo e2 H2 F2 l2 S2 h2 => ?_
  refine tO_in S2 (l1.trans l2) h2.bnd fun hi e3 H3 F3 l3 S3 h3 => ?_
  have L3 := (l1.trans l2).trans l3
  unfold lift1 at h3
  cases q1 : rd e3 x with
  | none => rw [q1] at h3; exact h3.elim
  | some d =>
    rw [q1] at h3
    have t := S3.tp ((r1.mono l2).mono l3) q1
    cases t with
    | @lst p xs ds g1 g2 =>
      refine .inl ⟨p, xs, rfl, SqL.of g1, fun r n => ?_⟩
      obtain ⟨F', l', S', z⟩ := (Res.lst n (dqAll_cut g2 lo hi)).fin S3
      exact h3 _ _ F' (L3.trans l') S' z
    | @tup p xs ds g1 g2 =>
      refine .inr ⟨p, xs, rfl, S3.fh.sqT g1, fun w => ?_, fun w r n => ?_⟩
      · have e : cutD ds lo hi = ds := by
          unfold cutD
          rw [← dqAll_len g2, w.1, w.2, List.drop_zero, Nat.sub_zero, dqAll_len g2, List.take_length]
        have h4 := h3 (.ref p) H3 F3 L3 S3
        refine h4 ?_
        show Dq X.K F3 (.ref p) (.tuple (cutD ds lo hi))
        rw [e]
        exact .tup g1 g2
      · obtain ⟨F', l', S', z⟩ := (Res.tup n (dqAll_cut g2 lo hi)).fin S3
        exact h3 _ _ F' (L3.trans l') S' z
    | _ => exact h3.elim
end
end Pf
namespace Pf
open PySem L2
/-- how a statement ends -/
inductive O where
  | nx (e : En)
  | rt (d : D) (e : En)
  | ex (c : Str) (e : En)
  | bk (e : En)
  | ct (e : En)
  | bad
def Os (o : O) (N : En → Prop) (T : D → En → Prop) (E : Str → En → Prop) (Bk Ct : En → Prop) : Prop := match o with
  | .nx e => N e
  | .rt d e => T d e
  | .ex c e => E c e
  | .bk e => Bk e
  | .ct e => Ct e
  | .bad => False
def nS (K : PySem.W.Frag) (B : Bs) (F : Hp) (P : St → Hp → Prop) : En → Prop := fun e => ∀ σ' H' F', Le F F' → SR K B F' e σ' H' → P σ' H'
def rS (K : PySem.W.Frag) (B : Bs) (F : Hp) (P : VK) : D → En → Prop := fun d e => ∀ v σ' H' F', Le F F' → SR K B F' e σ' H' → Dq K F' v d → P v H'
def xS (W : WX) (K : PySem.W.Frag) (B : Bs) (F : Hp) : Str → En → Prop := fun c e => ∀ σ' H' F', Le F F' → SR K B F' e σ' H' → W (.ref (He.ga K c)) none σ' H'
def tS (K : PySem.W.Frag) (W : WX) (g : En → O) : TS := fun D σ H => ∃ B F env, SR K B F env σ H ∧ Os (g env) (nS K B F D.nx) (rS K B F D.rt) (xS W K B F) (nS K B F D.bk) (nS K B F D.ct)
section
variable {K : PySem.W.Frag} {W : WX} {B : Bs} {F G : Hp} {env : En} {σ : St} {H : Hp}
theorem nS.mono {P : St → Hp → Prop} {e : En} (l : Le F G) (h : nS K B F P e) : nS K B G P e := fun σ' H' F' l' S => h σ' H' F' (l.trans l') S
theorem rS.mono {P : VK} {d : D} {e : En} (l : Le F G) (h : rS K B F P d e) : rS K B G P d e := fun v σ' H' F' l' S q => h v σ' H' F' (l.trans l') S q
theorem xS.mono {c : Str} {e : En} (l : Le F G) (h : xS W K B F c e) : xS W K B G c e := fun σ' H' F' l' S => h σ' H' F' (l.trans l') S
theorem xS.x {c : Str} {e : En} (h : xS W K B F c e) : xW W K B F σ c e := fun H' F' l' S => h σ H' F' l' S
theorem Os.mono {o : O} {N N' : En → Prop} {T T' : D → En → Prop} {E E' : Str → En → Prop} {Bk Bk' Ct Ct' : En → Prop} (h : Os o N T E Bk Ct) (h1 : ∀ e, N e → N' e) (h2 : ∀ d e, T d e → T' d e) (h3 : ∀ c e, E c e → E' c e) (h4 : ∀ e, Bk e → Bk' e) (h5 : ∀ e, Ct e → Ct' e) : Os o N' T' E' Bk' Ct' := by
  cases o with
  | nx e => exact h1 e h
  | rt d e => exact h2 d e h
  | ex c e => exact h3 c e h
  | bk e => exact h4 e h
  | ct e => exact h5 e h
  | bad => exact h
/-- the whole wish over a later frozen part -/
theorem Os.up {o : O} {D : Ends} (l : Le F G) (h : Os o (nS K B F D.nx) (rS K B F D.rt) (xS W K B F) (nS K B F D.bk) (nS K B F D.ct)) : Os o (nS K B G D.nx) (rS K B G D.rt) (xS W K B G) (nS K B G D.bk) (nS K B G D.ct) :=
  h.mono (fun _ q => q.mono l) (fun _ _ q => q.mono l) (fun _ _ q => q.mono l) (fun _ q => q.mono l) (fun _ q => q.mono l)
/-- from an expression's end to a statement's -/
def R.o {α : Type} (r : R α) (k : α → En → O) : O := match r with
  | .ok a e => k a e
  | .exc c e => .ex c e
  | .bad => .bad
theorem Os.r {α : Type} {r : R α} {k : α → En → O} {N : En → Prop} {T : D → En → Prop} {Bk Ct : En → Prop} (h : Os (r.o k) N T (xS W K B F) Bk Ct) : Rs r (fun a e => Os (k a e) N T (xS W K B F) Bk Ct) (xW W K B F σ) := by
  cases r with
  | ok a e => exact h
  | exc c e => exact xS.x h
  | bad => exact h
end
abbrev JS (X : Cx) (W : WX) (st : Stmt) (g : En → O) : Prop := PS X st (tS X.K W g)
abbrev JB (X : Cx) (W : WX) (sts : List Stmt) (g : En → O) : Prop := PSs X sts (tS X.K W g)
theorem PS.imp {X : Cx} {e : Stmt} {t t' : TS} (h : PS X e t) (k : ∀ D σ H, t' D σ H → t D σ H) : PS X e t' := ⟨fun pins s σ H D I q => h.run pins s σ H D I (k D σ H q)⟩
theorem PSs.imp {X : Cx} {e : List Stmt} {t t' : TS} (h : PSs X e t) (k : ∀ D σ H, t' D σ H → t D σ H) : PSs X e t' := ⟨fun pins s σ H D I q => h.run pins s σ H D I (k D σ H q)⟩
/-! ### combinators -/
def sNil : En → O := fun e => .nx e
def sSeq (g1 g2 : En → O) : En → O := fun env => match g1 env with
  | .nx e => g2 e
  | o => o
def sRet (f : M Vd) : En → O := fun env => (f env).o fun x e => (fz x e).o fun d e => .rt d e
def sDrop (f : M Vd) : En → O := fun env => (f env).o fun _ e => .nx e
def sSet (i : Nat) (f : M Vd) : En → O := fun env => (f env).o fun x e => (fz x e).o fun d e => .nx (e.set i (.va d))
def sOwn (i : Nat) (f : M (List D)) : En → O := fun env => (f env).o fun ds e => .nx (e.set i (.ow false ds))
def sIf (t : M Bool) (g1 g2 : En → O) : En → O := fun env => (t env).o fun b e => if b = true then g1 e else g2 e
def whL (c : M Bool) (b : En → O) : Nat → En → O
  | 0 => fun _ => .bad
  | n + 1 => fun env => (c env).o fun k e => if k = true then (match b e with
    | .nx e => whL c b n e
    | .ct e => whL c b n e
    | .bk e => .nx e
    | o => o) else .nx e
def forL (h : D → En → Option En) (b : En → O) : List D → En → O
  | [] => fun env => .nx env
  | d :: ds => fun env => match h d env with
    | none => .bad
    | some e => (match b e with
      | .nx e => forL h b ds e
      | .ct e => forL h b ds e
      | .bk e => .nx e
      | o => o)
def sFor (f : M (List D)) (h : D → En → Option En) (b : En → O) : En → O := fun env => (f env).o fun ds e => forL h b ds e
/-! ### rules -/
section
variable {X : Cx} {W : WX} {st : Stmt} {sts : List Stmt} {g g1 g2 : En → O} {pos : Pos} {a : Expr} {f : M Vd}
theorem jb_nil : JB X W [] sNil := PSs.imp pss_nil fun D σ H h => by
  obtain ⟨B, F, env, S, h⟩ := h
  exact h σ H F .refl S
theorem jb_cons (h1 : JS X W st g1) (h2 : JB X W sts g2) : JB X W (st :: sts) (sSeq g1 g2) := by
  refine PSs.imp (pss_cons h1 h2) fun D σ H h => ?_
  obtain ⟨B, F, env, S, h⟩ := h
  refine ⟨B, F, env, S, ?_⟩
  unfold sSeq at h
  cases q : g1 env with
  | nx e =>
    rw [q] at h
    intro σ' H' F' l S'
    exact ⟨B, F', e, S', h.up l⟩
  | rt d e => rw [q] at h; exact h
  | ex d e => rw [q] at h; exact h
  | bk e => rw [q] at h; exact h
  | ct e => rw [q] at h; exact h
  | bad => rw [q] at h; exact h
theorem jb_one (h1 : JS X W st g) : JB X W [st] g := PSs.imp (pss_one h1) fun _ _ _ h => h
theorem js_pass : JS X W (.Pass pos) sNil := PS.imp ps_pass fun D σ H h => by
  obtain ⟨B, F, env, S, h⟩ := h
  exact h σ H F .refl S
theorem fz_in {K : PySem.W.Frag} {B : Bs} {F : Hp} {e : En} {σ : St} {H : Hp} {x : Vd} {v : V} (S : SR K B F e σ H) (r : VR K F σ v x) {k : D → En → O} {N : En → Prop} {T : D → En → Prop} {E : Str → En → Prop} {Bk Ct : En → Prop} {Q : Prop} (h : Os ((fz x e).o k) N T E Bk Ct)
    (go : ∀ d e' F', Le F F' → SR K B F' e' σ H → Dq K F' v d → Os (k d e') N T E Bk Ct → Q) : Q := by
  cases q : fz x e with
  | bad => rw [q] at h; exact h.elim
  | exc c e' => exact absurd q (fz_noexc _ _ _ _)
  | ok d e' =>
    rw [q] at h
    obtain ⟨F', l, S', z⟩ := S.fz r q
    exact go d e' F' l S' z h
theorem js_ret (ha : JE X W a f) : JS X W (.Return (some a) pos) (sRet f) := by
  refine PS.imp (ps_ret ha) fun D σ H h => ?_
  obtain ⟨B, F, env, S, h⟩ := h
  refine tE_in S .refl h.r fun x e1 v H1 F1 l1 S1 r1 h1 => ?_
  refine fz_in S1 r1 h1 fun d e2 F2 l2 S2 z h2 => ?_
  exact h2 v σ H1 F2 (l1.trans l2) S2 z
theorem js_expr (ha : JE X W a f) (hs : swapsWith a none pos.line X.env = pure false := by rfl) : JS X W (.Expr a pos) (sDrop f) := by
  refine PS.imp (ps_expr ha hs) fun D σ H h => ?_
  obtain ⟨B, F, env, S, h⟩ := h
  refine tE_in S .refl h.r fun x e1 v H1 F1 l1 S1 r1 h1 => ?_
  exact h1 σ H1 F1 l1 S1
theorem js_set {i : Nat} {x : Str} {pos' : Pos} (hN : X.N.Nodup) (hi : X.N[i]? = some x) (hx : Loc X.env.scope x) (ha : JE X W a f) (hs : swapsWith a (some (.Name x pos')) pos.line X.env = pure false := by rfl) (hf : X.fn x = true ∨ X.env.scope.names.lookup x = some .local := by first | exact .inl rfl | exact .inr rfl | assumption) :
    JS X W (.Assign [.Name x pos'] a pos) (sSet i f) := by
  refine PS.imp (ps_set hN hi hx ha hs hf) fun D σ H h => ?_
  obtain ⟨B, F, env, S, h⟩ := h
  refine tE_in S .refl h.r fun x e1 v H1 F1 l1 S1 r1 h1 => ?_
  refine fz_in S1 r1 h1 fun d e2 F2 l2 S2 z h2 => ?_
  exact h2 _ H1 F2 (l1.trans l2) (S2.setVa i z)
theorem js_own {i : Nat} {x : Str} {pos' : Pos} {f : M (List D)} (hN : X.N.Nodup) (hi : X.N[i]? = some x) (hx : Loc X.env.scope x) (ha : JN X W a f) (hs : swapsWith a (some (.Name x pos')) pos.line X.env = pure false := by rfl) (hf : X.fn x = true ∨ X.env.scope.names.lookup x = some .local := by first | exact .inl rfl | exact .inr rfl | assumption) :
    JS X W (.Assign [.Name x pos'] a pos) (sOwn i f) := by
  refine PS.imp (ps_set hN hi hx ha hs hf) fun D σ H h => ?_
  obtain ⟨B, F, env, S, h⟩ := h
  refine tN_in S .refl h.r fun ds e1 p H1 F1 l1 S1 fr h1 => ?_
  obtain ⟨vs, q1, q2⟩ := fr.at_
  exact h1 _ H1 F1 l1 (S1.setOw i q1 fr.nF fr.nH q2 fr.ns)
theorem js_if {c : Expr} {as bs : List Stmt} {t : M Bool} (hc : JT X W c t) (ha : JB X W as g1) (hb : JB X W bs g2) : JS X W (.If c as bs pos) (sIf t g1 g2) := by
  refine PS.imp (ps_if hc ha hb) fun D σ H h => ?_
  obtain ⟨B, F, env, S, h⟩ := h
  refine tT_in S .refl h.r fun k e1 H1 F1 l1 S1 h1 => ?_
  cases k with
  | true => rw [if_pos rfl] at h1 ⊢; exact ⟨B, F1, e1, S1, h1.up l1⟩
  | false => rw [if_neg Bool.false_ne_true] at h1 ⊢; exact ⟨B, F1, e1, S1, h1.up l1⟩
/-! while -/
theorem js_while {c : Expr} {body : List Stmt} {t : M Bool} (n : Nat) (hp : PassesOwn (model X.prog X.w) X.A X.env X.xe) (hc : JT X W c t) (hb : JB X W body g) : JS X W (.While c body [] pos) (whL t g n) := by
  refine PS.imp (ps_while hp hc hb) fun D σ H h => ?_
  obtain ⟨B, F, env, S, h⟩ := h
  refine ⟨fun m σ' H' => ∃ F' e, Le F F' ∧ SR X.K B F' e σ' H' ∧ Os (whL t g m e) (nS X.K B F D.nx) (rS X.K B F D.rt) (xS W X.K B F) (nS X.K B F D.bk) (nS X.K B F D.ct), ⟨n, F, env, .refl, S, h⟩, ?_⟩
  rintro m σ1 H1 ⟨F1, e1, l1, S1, h1⟩
  cases m with
  | zero => exact h1.elim
  | succ m =>
    refine tT_in S1 l1 (Os.r h1) fun k e2 H2 F2 l2 S2 h2 => ?_
    have L2 := l1.trans l2
    cases k with
    | false =>
      rw [if_neg Bool.false_ne_true] at h2 ⊢
      exact h2 σ1 H2 F2 L2 S2
    | true =>
      rw [if_pos rfl] at h2 ⊢
      refine ⟨fun σ' H' => ∃ F' e, Le F F' ∧ SR X.K B F' e σ' H' ∧ Os (whL t g m e) (nS X.K B F D.nx) (rS X.K B F D.rt) (xS W X.K B F) (nS X.K B F D.bk) (nS X.K B F D.ct), fun σ' H' q => ⟨m, Nat.lt_succ_self m, q⟩, ?_⟩
      refine ⟨B, F2, e2, S2, ?_⟩
      cases q : g e2 with
      | nx e => rw [q] at h2; exact fun σ' H' F' l' S' => ⟨F', e, L2.trans l', S', h2⟩
      | ct e => rw [q] at h2; exact fun σ' H' F' l' S' => ⟨F', e, L2.trans l', S', h2⟩
      | bk e => rw [q] at h2; exact nS.mono L2 h2
      | rt d e => rw [q] at h2; exact rS.mono L2 h2
      | ex d e => rw [q] at h2; exact xS.mono L2 h2
      | bad => rw [q] at h2; exact h2
/-! what is walked -/
def Yl (K : PySem.W.Frag) (F H : Hp) (x : V) (H' : Hp) (d : D) : Prop := (H' = H ∧ Dq K F x d) ∨ ∃ T vs es, H T = none ∧ x = .ref T ∧ H' = upd H T (.tup vs) ∧ d = .tuple es ∧ DqAll K F vs es
def Wk (K : PySem.W.Frag) (J : It) (F : Hp) (ds : List D) : Prop := ∀ (i : Nat) (H : Hp), Le F H → (∀ d, ds[i]? = some d → J.go i H ∧ ∀ x H', J.yld i H x H' → Yl K F H x H' d) ∧ (ds.length = i → J.stop i H)
def tI (K : PySem.W.Frag) (W : WX) (f : M (List D)) : TI := fun σ H R => ∃ B F env, SR K B F env σ H ∧ Rs (f env) (fun ds e => ∀ J H' F', Le F F' → SR K B F' e σ H' → Wk K J F' ds → R J H') (xW W K B F σ)
theorem tI_in {K : PySem.W.Frag} {B : Bs} {F G : Hp} {env : En} {σ : St} {H : Hp} {f : M (List D)} {P : List D → En → Prop} {R : It → Hp → Prop} (S : SR K B F env σ H) (l : Le G F) (h : Rs (f env) P (xW W K B G σ)) (k : ∀ ds e J H' F', Le F F' → SR K B F' e σ H' → Wk K J F' ds → P ds e → R J H') : tI K W f σ H R :=
  ⟨B, F, env, S, h.mono (fun vd e p J H' F' l' S' r => k vd e J H' F' l' S' r p) (fun c e q => xW.mono l q)⟩
abbrev JI (X : Cx) (W : WX) (tg e : Expr) (f : M (List D)) : Prop := PI X tg e (tI X.K W f)
theorem PI.imp {X : Cx} {tg e : Expr} {t t' : TI} (h : PI X tg e t) (k : ∀ σ H Q, t' σ H Q → t σ H Q) : PI X tg e t' := ⟨fun pins s σ H Q I q => h.run pins s σ H Q I (k σ H Q q)⟩
/-- a turn's item -/
theorem Yl.fin {K : PySem.W.Frag} {B : Bs} {F F1 : Hp} {env : En} {σ : St} {H H' : Hp} {x : V} {d : D} (y : Yl K F H x H' d) (l : Le F F1) (S : SR K B F1 env σ H) : ∃ F', Le F1 F' ∧ SR K B F' env σ H' ∧ Dq K F' x d := by
  rcases y with ⟨rfl, q⟩ | ⟨T, vs, es, n, rfl, rfl, rfl, q⟩
  · exact ⟨F1, .refl, S, l.dq q⟩
  · have nF := S.fh.none n
    exact ⟨_, Le.upd nF, S.alloc n, .tup (SqT.of upd_same) ((l.trans (Le.upd nF)).dqAll q)⟩
/-! targets -/
def tG (K : PySem.W.Frag) (h : D → En → Option En) : TG := fun v σ H Q => ∃ B F env d e, SR K B F env σ H ∧ Dq K F v d ∧ h d env = some e ∧ ∀ σ' H' F', Le F F' → SR K B F' e σ' H' → Q σ' H'
abbrev JG (X : Cx) (tg : Expr) (h : D → En → Option En) : Prop := PG X tg (tG X.K h)
theorem PG.imp {X : Cx} {tg : Expr} {t t' : TG} (h : PG X tg t) (k : ∀ v σ H Q, t' v σ H Q → t v σ H Q) : PG X tg t' := ⟨fun pins s σ H v u Q I r q => h.run pins s σ H v u Q I r (k v σ H Q q)⟩
def gN (i : Nat) : D → En → Option En := fun d e => some (e.set i (.va d))
def setAll : List Nat → List D → En → Option En
  | [], [], e => some e
  | i :: is, d :: ds, e => setAll is ds (e.set i (.va d))
  | _, _, _ => none
def gT (is : List Nat) : D → En → Option En := fun d e => match d with
  | .tuple ds => setAll is ds e
  | _ => none
theorem jg_name {i : Nat} {x : Str} (hN : X.N.Nodup) (hi : X.N[i]? = some x) (hx : Loc X.env.scope x) (hf : X.fn x = true ∨ X.env.scope.names.lookup x = some .local := by first | exact .inl rfl | exact .inr rfl | assumption) : JG X (.Name x pos) (gN i) :=
  PG.imp (pg_name hN hi hx hf) fun v σ H Q h => by
    obtain ⟨B, F, env, d, e, S, q, he, k⟩ := h
    cases he
    exact k _ H F .refl (S.setVa i q)
def tGs (K : PySem.W.Frag) (is : List Nat) : TGs := fun vs σ H Q => ∃ B F env ds e, SR K B F env σ H ∧ DqAll K F vs ds ∧ setAll is ds env = some e ∧ ∀ σ' H' F', Le F F' → SR K B F' e σ' H' → Q σ' H'
theorem PGs.imp {X : Cx} {tg : List Expr} {t t' : TGs} (h : PGs X tg t) (k : ∀ v σ H Q, t' v σ H Q → t v σ H Q) : PGs X tg t' := ⟨fun pins s σ H v u Q I r q => h.run pins s σ H v u Q I r (k v σ H Q q)⟩
theorem setAll_len : ∀ {is : List Nat} {ds : List D} {env e : En}, setAll is ds env = some e → ds.length = is.length
  | [], [], _, _, _ => rfl
  | _ :: is, _ :: ds, _, _, h => by
    have := setAll_len (is := is) (ds := ds) h
    simp [this]
  | [], _ :: _, _, _, h => by cases h
  | _ :: _, [], _, _, h => by cases h
theorem jgs_nil : PGs X [] (tGs X.K []) := PGs.imp pgs_nil fun vs σ H Q h => by
  obtain ⟨B, F, env, ds, e, S, q, he, k⟩ := h
  cases q with
  | nil => cases he; exact ⟨rfl, k _ H F .refl S⟩
  | cons _ _ => cases he
theorem jgs_cons {i : Nat} {is : List Nat} {x : Str} {es : List Expr} (hN : X.N.Nodup) (hi : X.N[i]? = some x) (hx : Loc X.env.scope x) (h2 : PGs X es (tGs X.K is)) (hf : X.fn x = true ∨ X.env.scope.names.lookup x = some .local := by first | exact .inl rfl | exact .inr rfl | assumption)
    (hs : (assignEach (.Name x pos :: es) X.env).map (·.2) = assign (.Name x pos) X.env :: (assignEach es X.env).map (·.2) := by rfl) : PGs X (.Name x pos :: es) (tGs X.K (i :: is)) :=
  PGs.imp (pgs_cons (pg_name hN hi hx hf) h2 hs) fun vs σ H Q h => by
    obtain ⟨B, F, env, ds, e, S, q, he, k⟩ := h
    cases q with
    | nil => cases he
    | @cons v vs d ds q1 q2 => exact ⟨v, vs, rfl, B, F, _, ds, e, S.setVa i q1, q2, he, k⟩
theorem jg_tup {is : List Nat} {es : List Expr} {k : Nat} {n : Nat} (hc : X.calm = true) (h : PGs X es (tGs X.K is)) (e : is.length = n := by rfl)
    (hn : (assignEach es X.env).length = n := by rfl) (hst : (assignEach es X.env).findIdx? (·.1) = none := by rfl) : JG X (.Tuple es k pos) (gT is) :=
  PG.imp (pg_tup hc h hn hst) fun v σ H Q h => by
    obtain ⟨B, F, env, d, e1, S, q, he, k⟩ := h
    cases q with
    | @tup a xs ds q1 q2 =>
      refine ⟨a, xs, rfl, S.fh.sqT q1, ?_, B, F, env, ds, e1, S, q2, he, k⟩
      rw [dqAll_len q2, setAll_len he, e]
    | _ => cases he
/-- target = value -/
def sAsg (f : M Vd) (h : D → En → Option En) : En → O := fun env => (f env).o fun x e => (fz x e).o fun d e => match h d e with
  | some e => .nx e
  | none => .bad
theorem js_asg {tg : Expr} {h : D → En → Option En} (ha : JE X W a f) (hg : JG X tg h) (hs : swapsWithSole [tg] a pos.line X.env = pure false := by rfl) (hw : swappedStores [tg] a X.env = pure none := by rfl)
    (h1 : (assignEach [tg] X.env).map (·.2) = [assign tg X.env] := by rfl) : JS X W (.Assign [tg] a pos) (sAsg f h) := by
  refine PS.imp (ps_asg ha hg hs hw h1) fun D σ H q => ?_
  obtain ⟨B, F, env, S, q⟩ := q
  refine tE_in S .refl q.r fun x e1 v H1 F1 l1 S1 r1 h1 => ?_
  refine fz_in S1 r1 h1 fun d e2 F2 l2 S2 z h2 => ?_
  cases q3 : h d e2 with
  | none => rw [q3] at h2; exact h2.elim
  | some e3 =>
    rw [q3] at h2
    exact ⟨B, F2, e2, d, e3, S2, z, q3, fun σ' H' F' l' S' => h2 σ' H' F' ((l1.trans l2).trans l') S'⟩
/-! for -/
theorem js_for {tg iter : Expr} {body : List Stmt} {fi : M (List D)} {h : D → En → Option En} (hp : PassesOwn (model X.prog X.w) X.A X.env X.xe) (hc : X.calm = true) (hi : JI X W tg iter fi) (hg : JG X tg h) (hb : JB X W body g)
    (hs : ∀ x, foldedSetIterable iter X.env x = pure x := by intro _; rfl) : JS X W (.For tg iter body [] pos) (sFor fi h g) := by
  refine PS.imp (ps_for hp hc hi hg hb hs) fun D σ H q => ?_
  obtain ⟨B, F, env, S, q⟩ := q
  refine tI_in S .refl q.r fun ds e1 J H1 F1 l1 S1 wk h1 => ?_
  refine ⟨fun i m σ' H' => m = ds.length - i ∧ i ≤ ds.length ∧ ∃ F' e, Le F1 F' ∧ SR X.K B F' e σ' H' ∧ Os (forL h g (ds.drop i) e) (nS X.K B F D.nx) (rS X.K B F D.rt) (xS W X.K B F) (nS X.K B F D.bk) (nS X.K B F D.ct),
    ⟨ds.length, rfl, Nat.zero_le _, F1, e1, .refl, S1, h1⟩, ?_⟩
  rintro i m σ2 H2 ⟨rfl, hi, F2, e2, l2, S2, h2⟩
  obtain ⟨w1, w2⟩ := wk i H2 (l2.trans S2.fh)
  by_cases hlt : i < ds.length
  · rw [List.drop_eq_getElem_cons hlt] at h2
    have hd : ds[i]? = some ds[i] := List.getElem?_eq_getElem hlt
    obtain ⟨go, yl⟩ := w1 _ hd
    unfold forL at h2
    cases q3 : h ds[i] e2 with
    | none => rw [q3] at h2; exact h2.elim
    | some e3 =>
      rw [q3] at h2
      simp only at h2
      refine .inr ⟨go, fun σ' H' => ∃ F' e, Le F1 F' ∧ SR X.K B F' e σ' H' ∧ Os (forL h g (ds.drop (i + 1)) e) (nS X.K B F D.nx) (rS X.K B F D.rt) (xS W X.K B F) (nS X.K B F D.bk) (nS X.K B F D.ct),
        fun σ' H' q => ⟨ds.length - (i + 1), by omega, rfl, hlt, q⟩, fun x H3 y => ?_⟩
      obtain ⟨F3, l3, S3, z⟩ := (yl x H3 y).fin l2 S2
      refine ⟨B, F3, e2, ds[i], e3, S3, z, q3, fun σ4 H4 F4 l4 S4 => ⟨B, F4, e3, S4, ?_⟩⟩
      have L4 := (l2.trans l3).trans l4
      cases q : g e3 with
      | nx e => rw [q] at h2; exact fun σ' H' F' l' S' => ⟨F', e, L4.trans l', S', h2⟩
      | ct e => rw [q] at h2; exact fun σ' H' F' l' S' => ⟨F', e, L4.trans l', S', h2⟩
      | bk e => rw [q] at h2; exact nS.mono (l1.trans L4) h2
      | rt d e => rw [q] at h2; exact rS.mono (l1.trans L4) h2
      | ex d e => rw [q] at h2; exact xS.mono (l1.trans L4) h2
      | bad => rw [q] at h2; exact h2
  · have e : i = ds.length := by omega
    subst e
    rw [List.drop_length] at h2
    exact .inl ⟨w2 rfl, h2 σ2 H2 F2 (l1.trans l2) S2⟩
end
end Pf
namespace Pf
open PySem PySem.Spec PyProof.Rows L2
/-! ### lists and tuples as one: k tells which (true: a tuple) -/
def Sq (K : PySem.W.Frag) (k : Bool) (H : Hp) (a : Addr) (xs : List V) : Prop := if k = true then SqT K H a xs else SqL K H a xs
def ItAt (k : Bool) (h : Heap) (it a : Addr) (i : Nat) : Prop := if k = true then h.IsTupleIter it a i else h.IsListIter it a i
def SeqH (k : Bool) (h : Heap) (a : Addr) (its : Array Value) : Prop := if k = true then h.IsTuple a its else h.IsList a its
def itObj (k : Bool) (a : Addr) : Obj := if k = true then { cls := .type "tuple_iterator", data := .fields #[.ref a, .int 0 0] } else { cls := .type "list_iterator", data := .fields #[.ref a, .int 0 0] }
theorem beg (k : Bool) (a : Addr) (its : Array Value) : Begins (.ref a) (itObj k a) fun h => SeqH k h a its := by
  cases k with
  | true => exact begins_tuple a its
  | false => exact begins_list a its
theorem itObj_at {k : Bool} {h : Heap} {it a : Addr} (e : h.get? it = some (itObj k a)) : ItAt k h it a 0 := by
  cases k with
  | true => exact ⟨_, e, rfl, rfl⟩
  | false => exact ⟨_, e, rfl, rfl⟩
theorem drw {prog : Program} {w : World} {A : Around} (hh : A.handled = none) (k : Bool) (it a : Addr) (hne : a ≠ it) (its : Array Value) : Draws prog w A it [it, a] its.size (fun i v => its[i]? = some v) (fun i h => ItAt k h it a i ∧ SeqH k h a its) := by
  cases k with
  | true => exact Draws.tuple hh it a hne its
  | false => exact Draws.list hh it a hne its
theorem ItAt.keep {k : Bool} {h h' : Heap} {it a : Addr} {i : Nat} (x : ItAt k h it a i) (e : ∀ o, h.get? it = some o → h'.get? it = some o) : ItAt k h' it a i := by
  cases k with
  | true => exact Heap.IsTupleIter.at x e
  | false => exact Heap.IsListIter.at x e
theorem ItAt.obj {k : Bool} {h : Heap} {it a : Addr} {i : Nat} (x : ItAt k h it a i) : ∃ o, h.get? it = some o ∧ ∀ v, o.data ≠ .cell v := by
  cases k with
  | true => obtain ⟨o, e, c, d⟩ := x; exact ⟨o, e, fun v z => by rw [d] at z; cases z⟩
  | false => obtain ⟨o, e, c, d⟩ := x; exact ⟨o, e, fun v z => by rw [d] at z; cases z⟩
section
variable {X : Cx} {pins : List (Addr × Obj)} {σ : L2.St} {H : Hp} {s : Shared}
theorem sq_get {k : Bool} {a : Addr} {xs : List V} (I : Inv X pins σ H s) (h : Sq X.K k H a xs) : ∃ its : List Value, Vals xs its ∧ SeqH k s.heap a its.toArray ∧ xs.length ≤ sizeLine ∧ a < s.heap.objs.size := by
  cases k with
  | true =>
    obtain ⟨its, r, p, z⟩ := I.tuple h
    exact ⟨its, r, p, z, p.lt⟩
  | false =>
    obtain ⟨its, r, p, z⟩ := I.list h
    exact ⟨its, r, p.isList, z, p.lt⟩
theorem sq_inj {k : Bool} {a : Addr} {xs ys : List V} (I : Inv X pins σ H s) (h : Sq X.K k H a xs) (h' : Sq X.K k H a ys) : xs = ys := by
  cases k with
  | true => exact I.tuple_inj h h'
  | false => exact I.list_inj h h'
end
/-! ### enumerate -/
def Itek (K : PySem.W.Frag) (k : Bool) (a : Addr) : It :=
  ⟨fun i H => ∃ (xs : List V) (x : V), Sq K k H a xs ∧ xs[i]? = some x,
   fun i H v H' => ∃ T x, v = .ref T ∧ H T = none ∧ H' = upd H T (.tup [.int (i : Nat), x]) ∧ ∀ xs, Sq K k H a xs → xs[i]? = some x,
   fun i H => ∃ xs : List V, Sq K k H a xs ∧ xs.length = i⟩
/-- a new tuple at T, the rest but ch as it stood -/
theorem new_tup {X : Cx} {pins : List (Addr × Obj)} {σ : L2.St} {H : Hp} {s : Shared} {h' : Heap} {t' : Nat} {ch : List Addr} {T : Addr} {xs : List V} {its : List Value} (I : Inv X pins σ H s) (k : ∀ b o, b ∉ ch → s.heap.get? b = some o → h'.get? b = some o)
    (hf : ∀ b ∈ ch, FpOk X pins H b) (hT : s.heap.objs.size ≤ T) (r : Vals xs its) (z : xs.length ≤ sizeLine) (ht : h'.IsTuple T its.toArray) : Inv X pins σ (upd H T (.tup xs)) { s with heap := h', toks := t' } :=
  I.turnedNew k hf hT ⟨z, its, r, ht⟩
theorem turn_ek {P : Program} {w : World} {K : PySem.W.Frag} {elts : List Expr} {kk : Nat} {tpos : Pos} (k : Bool) (a e it : Addr) (hae : a ≠ e) (hai : a ≠ it) :
    Turn P w K (.Tuple elts kk tpos) (Itek K k a) [e, it] e (fun i h => (∃ old, IsEnum h e it ((i : Nat) : Int) old) ∧ ItAt k h it a i ∧ e ≠ it) where
  mem := by simp
  obj := fun i h st b hb => by
    obtain ⟨⟨old, he⟩, hi, _⟩ := st
    have q : b = e ∨ b = it := by simpa using hb
    rcases q with rfl | rfl
    · exact ⟨_, he, fun v z => nomatch z⟩
    · exact hi.obj
  keep := fun i h h' st kp => by
    obtain ⟨⟨old, he⟩, hi, hne⟩ := st
    exact ⟨⟨old, kp e (by simp) _ he⟩, hi.keep fun o q => kp it (by simp) o q, hne⟩
  item := by
    intro X hP hw hK hc i pins s σ H E I hf st hg
    subst hP hw hK
    obtain ⟨⟨old, he⟩, hi, hne⟩ := st
    obtain ⟨xs, x, hq, hx⟩ := hg
    obtain ⟨its, rv, hs, hz, _⟩ := sq_get I hq
    obtain ⟨u, hu, ru⟩ := rv.get hx
    have D := drw (prog := X.prog) (w := X.w) (A := X.A.in1) (I.ok.hd hc) k it a hai its.toArray
    have Wt := WalksT.enumerateD D e hne (by simp [hne, Ne.symm hae]) (by simp)
    have hlt : i < its.toArray.size := by
      obtain ⟨q, _⟩ := List.getElem?_eq_some_iff.mp hu
      simpa using q
    refine Wt.item i s _ E hlt ⟨⟨old, he⟩, hi, hs⟩ fun T vals h1 tk hP hT ht hm hk => ⟨.ref T, rfl, ?_⟩
    refine Wt.go elts kk tpos i T { s with heap := h1, toks := tk } _ E hm fun h2 st2 hk2 => ?_
    obtain ⟨t, y, hy, rfl⟩ := hP
    have hyu : y = u := by
      have : its.toArray[i]? = some u := by simpa using hu
      rw [this] at hy
      exact (Option.some.inj hy).symm
    subst hyu
    have nT := Wt.apart i T _ hm
    have ht2 : h2.IsTuple T [Value.int i t, y].toArray := ht.at fun o q => hk2 T o nT q
    have J : Inv X pins σ (upd H T (.tup [.int (i : Nat), x])) { s with heap := h2, toks := tk } :=
      new_tup (ch := [e, it]) I (fun b o hb q => hk2 b o hb (hk b o hb q)) hf hT (.cons ⟨_, rfl⟩ (.cons ru .nil)) (by show 2 ≤ sizeLine; decide) ht2
    refine ⟨.ref T, _, J, rfl, ⟨T, x, rfl, I.hok.fresh hT, rfl, fun ys hy => by rw [sq_inj I hy hq]; exact hx⟩, ⟨st2.1, st2.2.1, hne⟩, fun b hb => ?_⟩
    have hbT : b ≠ T := fun z => nT (z ▸ hb)
    rw [upd_ne hbT]
    exact (hf b hb).1
  done := by
    intro X hP hw hK hc i pins s σ H E I hf st hg
    subst hP hw hK
    obtain ⟨⟨old, he⟩, hi, hne⟩ := st
    obtain ⟨xs, hq, hx⟩ := hg
    obtain ⟨its, rv, hs, hz, _⟩ := sq_get I hq
    have D := drw (prog := X.prog) (w := X.w) (A := X.A.in1) (I.ok.hd hc) k it a hai its.toArray
    have Wt := WalksT.enumerateD D e hne (by simp [hne, Ne.symm hae]) (by simp)
    have hl : i = its.toArray.size := by rw [List.size_toArray, ← rv.length]; exact hx.symm
    subst hl
    exact Wt.done s _ E ⟨⟨old, he⟩, hi, hs⟩ fun h' tk kp => ⟨rfl, I.turnedL kp hf⟩
  self := fun A i s Q E st h => by
    obtain ⟨⟨old, he⟩, _⟩ := st
    exact wpAny_pyIter_enum he h
/-- enumerate(v), one argument -/
theorem enum1_new {v : Value} {o : Obj} {Hy : Heap → Prop} (Bg : Begins v o Hy) : Meets (Builtin.«enumerate.__new__» ⟨[.type "enumerate", v], []⟩) (fun _ R s => Hy s.heap ∧
      R (.ok (.ret (.ref (s.heap.push o).objs.size))) { s with heap := (s.heap.push o).push { cls := .type "enumerate", data := .fields #[.none, .bool false, .ref s.heap.objs.size, rawInt 0, .none, .none] } }) :=
  .of_wp fun prog w A R s h => by
    obtain ⟨hp, g, d, tk, os⟩ := s
    obtain ⟨h1, h⟩ := h
    have hsub := sub_enumerate
    have it1 : ∀ {A' : Around} {E : Value → Shared → Prop} {Q : Value → Shared → Prop}, Q (.ref hp.objs.size) ⟨hp.push o, g, d, tk, os⟩ → wpAny (model prog w) A' (pyIter v) Q E ⟨hp, g, d, tk, os⟩ :=
      fun {A' E Q} q => Bg.iter prog w A' E ⟨hp, g, d, tk, os⟩ Q h1 q
    wp_walk using it1
    refine wpAny_stack_any fun st => wpAny_pure ?_
    split
    · rename_i c _ _ _ _ _
      cases (c == Value.type "enumerate") <;> (wp_walk using it1; exact ⟨_, rfl, h⟩)
    · (wp_walk using it1; exact ⟨_, rfl, h⟩)
theorem enum1_call {prog : Program} {w : World} {A : Around} {E : Value → Shared → Prop} {s : Shared} {v : Value} {o : Obj} {Hy : Heap → Prop} {Q : Value → Shared → Prop} (Bg : Begins v o Hy) (h1 : Hy s.heap)
    (h : ∀ h', IsEnum h' (s.heap.objs.size + 1) s.heap.objs.size 0 .none → h'.get? s.heap.objs.size = some o → h'.objs.size = s.heap.objs.size + 2 → (∀ b o, s.heap.get? b = some o → h'.get? b = some o) → Q (.ref (s.heap.objs.size + 1)) { s with heap := h' }) :
    wpAny (model prog w) A (call (.type "enumerate") [v]) Q E s := by
  refine callType_new F.called_enumerate (by decide) (F.typeCall_enumerate_1 _) (F.newCall_enumerate_1 _) (fun obj => F.args_object_init_2 obj _) F.entry_enumerate_new (enum1_new Bg) ⟨h1, ?_⟩
  have hz : (s.heap.push o).objs.size = s.heap.objs.size + 1 := Heap.size_push ..
  show _ ∧ _
  rw [hz]
  have he : IsEnum ((s.heap.push o).push { cls := .type "enumerate", data := .fields #[.none, .bool false, .ref s.heap.objs.size, rawInt 0, .none, .none] }) (s.heap.objs.size + 1) s.heap.objs.size 0 .none := by
    have q := Heap.get?_push_size (s.heap.push o) (o := { cls := .type "enumerate", data := .fields #[.none, .bool false, .ref s.heap.objs.size, rawInt 0, .none, .none] }) rfl
    rw [hz] at q
    exact q
  exact ⟨⟨_, he, rfl⟩, h _ he (Heap.get?_push_of_some _ (Heap.get?_push_size _ Bg.free)) (by rw [Heap.size_push, hz]) fun b o x => Heap.get?_push_of_some _ (Heap.get?_push_of_some _ x)⟩
def iEk (K : PySem.W.Frag) (ta : TA) : TI := fun σ H R => ta σ H fun vs H1 => ∃ k a xs, vs = [.ref a] ∧ Sq K k H1 a xs ∧ R (Itek K k a) H1
theorem pi_ek {X : Cx} {e : Expr} {ta : TA} {p pos tpos : Pos} {elts : List Expr} {kk : Nat} (hg : Gl X "enumerate") (hm : X.mg "enumerate" = none) (ha : PA X [e] ta) (hs : starEach [e] X.env = [(false, eval e X.env)] := by rfl) :
    PI X (.Tuple elts kk tpos) (.Call (.Name "enumerate" p) [e] [] pos) (iEk X.K ta) := by
  refine ⟨fun pins s σ H R I h => ?_⟩
  refine Call_ (ld_blt I hg hm boot_enumerate (PyProof.Rows.callWith_type1 (thn (ha.run pos pins s σ H _ I h) fun us s1 ⟨vs, H1, I1, r1, q1⟩ => ?_) hs rfl))
  obtain ⟨k, a, xs, ex, hq, q⟩ := q1
  subst ex
  cases r1 with
  | cons r rr =>
    cases rr
    cases r
    obtain ⟨its, rv, hsq, hz, hlt⟩ := sq_get I1 hq
    refine enum1_call (beg k a its.toArray) hsq fun h' he hit hsz hk => wpAny_pyIter_enum he ?_
    have J : Inv X pins σ H1 { s1 with heap := h' } := I1.kept (t' := s1.toks) hk
    refine ⟨s1.heap.objs.size + 1, [s1.heap.objs.size + 1, s1.heap.objs.size], _, _, H1, rfl, J, turn_ek k a (s1.heap.objs.size + 1) s1.heap.objs.size (Nat.ne_of_lt (Nat.lt_succ_of_lt hlt)) (Nat.ne_of_lt hlt), ⟨⟨.none, he⟩, itObj_at hit, Nat.succ_ne_self _⟩, fun b hb => ?_, q⟩
    have hb' : b = s1.heap.objs.size + 1 ∨ b = s1.heap.objs.size := by simpa using hb
    have hle : s1.heap.objs.size ≤ b := hb'.elim (fun z => by rw [z]; exact Nat.le_succ _) (fun z => by rw [z]; exact Nat.le_refl _)
    exact I1.fpOk hle (I1.hok.fresh hle)
/-! ### zip -/
def Itzk (K : PySem.W.Frag) (k1 k2 : Bool) (a b : Addr) : It :=
  ⟨fun i H => ∃ (xs ys : List V) (x y : V), Sq K k1 H a xs ∧ Sq K k2 H b ys ∧ xs[i]? = some x ∧ ys[i]? = some y,
   fun i H v H' => ∃ T x y, v = .ref T ∧ H T = none ∧ H' = upd H T (.tup [x, y]) ∧ (∀ xs, Sq K k1 H a xs → xs[i]? = some x) ∧ ∀ ys, Sq K k2 H b ys → ys[i]? = some y,
   fun i H => ∃ xs ys : List V, Sq K k1 H a xs ∧ Sq K k2 H b ys ∧ min xs.length ys.length = i⟩
theorem turn_zk {P : Program} {w : World} {K : PySem.W.Frag} {elts : List Expr} {kk : Nat} {tpos : Pos} (k1 k2 : Bool) {a b z TI TO i1 i2 : Addr} (S : ZipSep2 z TI TO i1 i2 [i1, a] [i2, b]) (na : a ≠ i1) (nb : b ≠ i2) :
    Turn P w K (.Tuple elts kk tpos) (Itzk K k1 k2 a b) [z, TI, TO, i1, i2] z (fun i h => IsZip h z TI TO .none ∧ IsTupOf2 h TI (.ref i1) (.ref i2) ∧ (∃ x y, IsTupOf2 h TO x y) ∧ ItAt k1 h i1 a i ∧ ItAt k2 h i2 b i) where
  mem := by simp
  obj := fun i h st c hc => by
    obtain ⟨hz, hTI, ⟨x, y, hTO⟩, h1, h2⟩ := st
    have q : c = z ∨ c = TI ∨ c = TO ∨ c = i1 ∨ c = i2 := by simpa using hc
    rcases q with rfl | rfl | rfl | rfl | rfl
    · exact ⟨_, hz, fun v q => nomatch q⟩
    · exact ⟨_, hTI, fun v q => nomatch q⟩
    · exact ⟨_, hTO, fun v q => nomatch q⟩
    · exact h1.obj
    · exact h2.obj
  keep := fun i h h' st kp => by
    obtain ⟨hz, hTI, ⟨x, y, hTO⟩, h1, h2⟩ := st
    exact ⟨kp z (by simp) _ hz, kp TI (by simp) _ hTI, ⟨x, y, kp TO (by simp) _ hTO⟩, h1.keep fun o q => kp i1 (by simp) o q, h2.keep fun o q => kp i2 (by simp) o q⟩
  item := by
    intro X hP hw hK hc i pins s σ H E I hf st hg
    subst hP hw hK
    obtain ⟨hz, hTI, hTO, h1, h2⟩ := st
    obtain ⟨xs, ys, x, y, hqx, hqy, hx, hy⟩ := hg
    obtain ⟨its, rv, hs, _, _⟩ := sq_get I hqx
    obtain ⟨its2, rv2, hs2, _, _⟩ := sq_get I hqy
    obtain ⟨u, hu, ru⟩ := rv.get hx
    obtain ⟨u2, hu2, ru2⟩ := rv2.get hy
    have D1 := drw (prog := X.prog) (w := X.w) (A := X.A.in1) (I.ok.hd hc) k1 i1 a na its.toArray
    have D2 := drw (prog := X.prog) (w := X.w) (A := X.A.in1) (I.ok.hd hc) k2 i2 b nb its2.toArray
    have Wt := WalksT.zipD2 S D1 D2
    have lt1 : i < its.toArray.size := by
      obtain ⟨q, _⟩ := List.getElem?_eq_some_iff.mp hu
      simpa using q
    have lt2 : i < its2.toArray.size := by
      obtain ⟨q, _⟩ := List.getElem?_eq_some_iff.mp hu2
      simpa using q
    refine Wt.item i s _ E (Nat.lt_min.mpr ⟨lt1, lt2⟩) ⟨hz, hTI, hTO, ⟨h1, hs⟩, h2, hs2⟩ fun T vals g1 tk hP hT ht hm hk => ⟨.ref T, rfl, ?_⟩
    refine Wt.go elts kk tpos i T { s with heap := g1, toks := tk } _ E hm fun g2 st2 hk2 => ?_
    obtain ⟨v1, v2, hv1, hv2, rfl⟩ := hP
    have e1 : v1 = u := by
      have : its.toArray[i]? = some u := by simpa using hu
      rw [this] at hv1
      exact (Option.some.inj hv1).symm
    have e2 : v2 = u2 := by
      have : its2.toArray[i]? = some u2 := by simpa using hu2
      rw [this] at hv2
      exact (Option.some.inj hv2).symm
    subst e1 e2
    have nT := Wt.apart i T _ hm
    have ht2 : g2.IsTuple T [v1, v2].toArray := ht.at fun o q => hk2 T o nT q
    have J : Inv X pins σ (upd H T (.tup [x, y])) { s with heap := g2, toks := tk } :=
      new_tup (ch := [z, TO, i1, i2]) I (fun c o hb q => hk2 c o hb (hk c o hb q)) (fun c hc' => hf c (by
        have q : c = z ∨ c = TO ∨ c = i1 ∨ c = i2 := by simpa using hc'
        rcases q with rfl | rfl | rfl | rfl <;> simp)) hT (.cons ru (.cons ru2 .nil)) (by show 2 ≤ sizeLine; decide) ht2
    refine ⟨.ref T, _, J, rfl, ⟨T, x, y, rfl, I.hok.fresh hT, rfl, fun l hl => by rw [sq_inj I hl hqx]; exact hx, fun l hl => by rw [sq_inj I hl hqy]; exact hy⟩, ⟨st2.1, st2.2.1, st2.2.2.1, st2.2.2.2.1.1, st2.2.2.2.2.1⟩, fun c hcm => ?_⟩
    have hcT : c ≠ T := fun q => by
      subst q
      have z1 := hf c hcm
      have lt : c < s.heap.objs.size := by
        have e' : c = z ∨ c = TI ∨ c = TO ∨ c = i1 ∨ c = i2 := by simpa using hcm
        rcases e' with rfl | rfl | rfl | rfl | rfl
        · exact Heap.lt_size hz
        · exact Heap.lt_size hTI
        · obtain ⟨_, _, q⟩ := hTO; exact Heap.lt_size q
        · obtain ⟨_, q, _⟩ := h1.obj; exact Heap.lt_size q
        · obtain ⟨_, q, _⟩ := h2.obj; exact Heap.lt_size q
      exact absurd (Nat.lt_of_lt_of_le lt hT) (Nat.lt_irrefl _)
    rw [upd_ne hcT]
    exact (hf c hcm).1
  done := by
    intro X hP hw hK hc i pins s σ H E I hf st hg
    subst hP hw hK
    obtain ⟨hz, hTI, hTO, h1, h2⟩ := st
    obtain ⟨xs, ys, hqx, hqy, hx⟩ := hg
    obtain ⟨its, rv, hs, _, _⟩ := sq_get I hqx
    obtain ⟨its2, rv2, hs2, _, _⟩ := sq_get I hqy
    have D1 := drw (prog := X.prog) (w := X.w) (A := X.A.in1) (I.ok.hd hc) k1 i1 a na its.toArray
    have D2 := drw (prog := X.prog) (w := X.w) (A := X.A.in1) (I.ok.hd hc) k2 i2 b nb its2.toArray
    have Wt := WalksT.zipD2 S D1 D2
    have hl : i = min its.toArray.size its2.toArray.size := by rw [List.size_toArray, List.size_toArray, ← rv.length, ← rv2.length]; exact hx.symm
    subst hl
    refine Wt.done s _ E ⟨hz, hTI, hTO, ⟨h1, hs⟩, h2, hs2⟩ fun h' tk kp => ⟨rfl, I.turnedL kp fun c hc' => hf c ?_⟩
    have q : c = z ∨ c = TO ∨ c = i1 ∨ c = i2 := by simpa using hc'
    rcases q with rfl | rfl | rfl | rfl <;> simp
  self := fun A i s Q E st h => wpAny_pyIter_zip st.1 h
def iZk (K : PySem.W.Frag) (ta : TA) : TI := fun σ H R => ta σ H fun vs H1 => ∃ k1 k2 a b xs ys, vs = [.ref a, .ref b] ∧ Sq K k1 H1 a xs ∧ Sq K k2 H1 b ys ∧ R (Itzk K k1 k2 a b) H1
theorem pi_zk {X : Cx} {e e2 : Expr} {ta : TA} {p pos tpos : Pos} {elts : List Expr} {kk : Nat} (hg : Gl X "zip") (hm : X.mg "zip" = none) (ha : PA X [e, e2] ta)
    (hs : starEach [e, e2] X.env = (false, eval e X.env) :: starEach [e2] X.env := by rfl) (hpl : (backTo pos (starEach [e2] X.env)).any (·.1) = false := by rfl) : PI X (.Tuple elts kk tpos) (.Call (.Name "zip" p) [e, e2] [] pos) (iZk X.K ta) := by
  refine ⟨fun pins s σ H R I h => ?_⟩
  refine Call_ (ld_blt I hg hm PyProof.Rows.boot_zip (PyProof.Rows.callWith_type1 (thn (ha.run pos pins s σ H _ I h) fun us s1 ⟨vs, H1, I1, r1, q1⟩ => ?_) hs hpl))
  obtain ⟨k1, k2, a, b, xs, ys, ex, hqx, hqy, q⟩ := q1
  subst ex
  cases r1 with
  | cons r rr =>
    cases rr with
    | cons r' rr =>
      cases rr
      cases r
      cases r'
      obtain ⟨its, rv, hs1, _, la⟩ := sq_get I1 hqx
      obtain ⟨its2, rv2, hs2, _, lb⟩ := sq_get I1 hqy
      refine zip_begins2 (beg k1 a its.toArray) (beg k2 b its2.toArray) hs1 hs2 fun h' hz hTI hTO g1 g2 hsz hk => wpAny_pyIter_zip hz ?_
      have J : Inv X pins σ H1 { s1 with heap := h' } := I1.kept (t' := s1.toks) hk
      have sep := zip_sep2 (N := s1.heap.objs.size) (fp1 := [a]) (fp2 := [b]) (fun c hc => by rw [List.mem_singleton.mp hc]; exact la) (fun c hc => by rw [List.mem_singleton.mp hc]; exact lb)
      refine ⟨s1.heap.objs.size + 4, [s1.heap.objs.size + 4, s1.heap.objs.size + 2, s1.heap.objs.size + 3, s1.heap.objs.size, s1.heap.objs.size + 1], _, _, H1, rfl, J, turn_zk k1 k2 sep (Nat.ne_of_lt la) (Nat.ne_of_lt (Nat.lt_succ_of_lt lb)),
        ⟨hz, hTI, ⟨_, _, hTO⟩, itObj_at g1, itObj_at g2⟩, fun c hcm => ?_, q⟩
      have hle : s1.heap.objs.size ≤ c := by
        have e' : c = s1.heap.objs.size + 4 ∨ c = s1.heap.objs.size + 2 ∨ c = s1.heap.objs.size + 3 ∨ c = s1.heap.objs.size ∨ c = s1.heap.objs.size + 1 := by simpa using hcm
        rcases e' with z | z | z | z | z <;> rw [z]
        · exact Nat.le_add_right _ _
        · exact Nat.le_add_right _ _
        · exact Nat.le_add_right _ _
        · exact Nat.le_refl _
        · exact Nat.le_add_right _ _
      exact I1.fpOk hle (I1.hok.fresh hle)
end Pf
namespace Pf
open PySem PySem.Spec PyProof.Rows L2
/-! ### what is walked -/
def itemsOf : D → Option (List D)
  | .list ds => some ds
  | .tuple ds => some ds
  | .str x => some (x.cps.toList.map fun c => .str ⟨#[c]⟩)
  | _ => none
def lSeq (f : M Vd) : M (List D) := fun env => (f env).bnd fun x e => (fz x e).bnd fun d e => match itemsOf d with
  | some ds => .ok ds e
  | none => .bad
def rngD (lo : Int) : Nat → List D
  | 0 => []
  | n + 1 => .int lo :: rngD (lo + 1) n
def rngC (lo c : Int) : Nat → List D
  | 0 => []
  | n + 1 => .int lo :: rngC (lo + c) c n
def enumD (i : Int) : List D → List D
  | [] => []
  | d :: ds => .tuple [.int i, d] :: enumD (i + 1) ds
def zipD : List D → List D → List D
  | a :: as, b :: bs => .tuple [a, b] :: zipD as bs
  | _, _ => []
/-- ints that are read now -/
def rdI (env : En) : List Vd → Option (List Int)
  | [] => some []
  | x :: xs => match rd env x, rdI env xs with
    | some (.int i), some is => some (i :: is)
    | _, _ => none
def small62 (i : Int) : Bool := Nat.blt i.natAbs 4611686018427387904
/-- range(..) by its arguments -/
def rng1 : List Int → Option (List D)
  | [j] => if (small62 j && szL j.toNat) = true then some (rngD 0 j.toNat) else none
  | _ => none
def rng2 : List Int → Option (List D)
  | [i, j] => if (small62 i && (small62 j && szL (j - i).toNat)) = true then some (rngD i (j - i).toNat) else none
  | _ => none
def rng3 : List Int → Option (List D)
  | [i, j, c] => if (small62 i && (small62 j && (decide (c = -1) && szL (i - j).toNat))) = true then some (rngC i (-1) (i - j).toNat) else none
  | _ => none
def lRng (rg : List Int → Option (List D)) (fa : M (List Vd)) : M (List D) := fun env => (fa env).bnd fun xs e => match rdI e xs with
  | some is => (match rg is with
    | some ds => .ok ds e
    | none => .bad)
  | none => .bad
def seqOf : D → Option (List D)
  | .list ds => some ds
  | .tuple ds => some ds
  | _ => none
def lEnum (fa : M (List Vd)) : M (List D) := fun env => (fa env).bnd fun xs e => (fzAll xs e).bnd fun ds e => match ds with
  | [d] => (match seqOf d with
    | some es => .ok (enumD 0 es) e
    | none => .bad)
  | _ => .bad
def lZip (fa : M (List Vd)) : M (List D) := fun env => (fa env).bnd fun xs e => (fzAll xs e).bnd fun ds e => match ds with
  | [a, b] => (match seqOf a, seqOf b with
    | some as, some bs => .ok (zipD as bs) e
    | _, _ => .bad)
  | _ => .bad
theorem rngD_len : ∀ (n : Nat) (lo : Int), (rngD lo n).length = n
  | 0, _ => rfl
  | n + 1, lo => by simp [rngD, rngD_len n]
theorem rngD_get : ∀ (n : Nat) (lo : Int) (i : Nat), i < n → (rngD lo n)[i]? = some (.int (lo + i))
  | 0, _, _, h => absurd h (Nat.not_lt_zero _)
  | n + 1, lo, 0, _ => by simp [rngD]
  | n + 1, lo, i + 1, h => by
    have := rngD_get n (lo + 1) i (by omega)
    simp only [rngD, List.getElem?_cons_succ, this]
    congr 2
    omega
theorem rngC_len (c : Int) : ∀ (n : Nat) (lo : Int), (rngC lo c n).length = n
  | 0, _ => rfl
  | n + 1, lo => by simp [rngC, rngC_len c n]
theorem rngC_get (c : Int) : ∀ (n : Nat) (lo : Int) (i : Nat), i < n → (rngC lo c n)[i]? = some (.int (lo + i * c))
  | 0, _, _, h => absurd h (Nat.not_lt_zero _)
  | n + 1, lo, 0, _ => by simp [rngC]
  | n + 1, lo, i + 1, h => by
    have := rngC_get c n (lo + c) i (by omega)
    simp only [rngC, List.getElem?_cons_succ, this]
    congr 2
    have : ((i + 1 : Nat) : Int) * c = i * c + c := by rw [Int.natCast_add, Int.add_mul]; simp
    omega
theorem enumD_len : ∀ (ds : List D) (i : Int), (enumD i ds).length = ds.length
  | [], _ => rfl
  | _ :: ds, i => by simp [enumD, enumD_len ds]
theorem enumD_get : ∀ (ds : List D) (k : Int) (i : Nat) (d : D), ds[i]? = some d → (enumD k ds)[i]? = some (.tuple [.int (k + i), d])
  | [], _, _, _, h => by simp at h
  | x :: ds, k, 0, d, h => by simp at h; subst h; simp [enumD]
  | x :: ds, k, i + 1, d, h => by
    have := enumD_get ds (k + 1) i d (by simpa using h)
    simp only [enumD, List.getElem?_cons_succ, this]
    congr 4
    omega
theorem zipD_len : ∀ (as bs : List D), (zipD as bs).length = min as.length bs.length
  | [], _ => by simp [zipD]
  | _ :: _, [] => by simp [zipD]
  | _ :: as, _ :: bs => by
    simp only [zipD, List.length_cons, zipD_len as bs]
    omega
theorem zipD_get : ∀ (as bs : List D) (i : Nat) (a b : D), as[i]? = some a → bs[i]? = some b → (zipD as bs)[i]? = some (.tuple [a, b])
  | [], _, _, _, _, h, _ => by simp at h
  | _ :: _, [], _, _, _, _, h => by simp at h
  | x :: as, y :: bs, 0, a, b, h, h' => by simp at h h'; subst h; subst h'; simp [zipD]
  | x :: as, y :: bs, i + 1, a, b, h, h' => by
    have := zipD_get as bs i a b (by simpa using h) (by simpa using h')
    simpa [zipD] using this
theorem some_of {α : Type} {l : List α} {i : Nat} (h : i < l.length) : ∃ a, l[i]? = some a := ⟨l[i], List.getElem?_eq_getElem h⟩
section
variable {K : PySem.W.Frag} {F : Hp}
theorem wk_list {a : Addr} {vs : List V} {ds : List D} (h : F a = some (.lst vs)) (q : DqAll K F vs ds) : Wk K (Itl K a) F ds := fun i H l => by
  have hH : SqL K H a vs := SqL.of (l a _ h)
  refine ⟨fun d hd => ?_, fun e => ⟨vs, hH, by rw [dqAll_len q, e]; exact Nat.le_refl _⟩⟩
  obtain ⟨v, h1, h2⟩ := dqAll_get q hd
  refine ⟨⟨vs, v, hH, h1⟩, fun x H' y => ?_⟩
  obtain ⟨rfl, y⟩ := y
  have := y vs hH
  rw [h1] at this
  cases this
  exact .inl ⟨rfl, h2⟩
theorem wk_tup {a : Addr} {vs : List V} {ds : List D} (h : SqT K F a vs) (q : DqAll K F vs ds) : Wk K (Itt K a) F ds := fun i H l => by
  have hH : SqT K H a vs := l.sqT h
  refine ⟨fun d hd => ?_, fun e => ⟨vs, hH, by rw [dqAll_len q, e]; exact Nat.le_refl _⟩⟩
  obtain ⟨v, h1, h2⟩ := dqAll_get q hd
  refine ⟨⟨vs, v, hH, h1⟩, fun x H' y => ?_⟩
  obtain ⟨rfl, y⟩ := y
  have := y vs hH
  rw [h1] at this
  cases this
  exact .inl ⟨rfl, h2⟩
theorem wk_str (z : Str) : Wk K (Its z) F (z.cps.toList.map fun c => .str ⟨#[c]⟩) := fun i H l => by
  refine ⟨fun d hd => ?_, fun e => ?_⟩
  · rw [List.getElem?_map] at hd
    have hi : i < z.cps.size := by
      cases q : z.cps.toList[i]? with
      | none => rw [q] at hd; cases hd
      | some c => exact (List.getElem?_eq_some_iff.mp q).1
    refine ⟨hi, fun x H' y => ?_⟩
    obtain ⟨rfl, c, hc, rfl⟩ := y
    have : z.cps.toList[i]? = some c := by simpa using hc
    rw [this] at hd
    cases hd
    exact .inl ⟨rfl, .str _⟩
  · show z.cps.size ≤ i
    rw [← e, List.length_map, Array.length_toList]
    exact Nat.le_refl _
theorem wk_rng (lo : Int) (n : Nat) : Wk K (Itr lo n) F (rngD lo n) := fun i H l => by
  refine ⟨fun d hd => ?_, fun e => ?_⟩
  · have hi : i < n := by
      have := (List.getElem?_eq_some_iff.mp hd).1
      rwa [rngD_len] at this
    rw [rngD_get n lo i hi] at hd
    cases hd
    refine ⟨hi, fun x H' y => ?_⟩
    obtain ⟨rfl, rfl⟩ := y
    exact .inl ⟨rfl, .int _⟩
  · rw [rngD_len] at e
    exact Nat.le_of_eq e
theorem wk_rngC (lo c : Int) (n : Nat) : Wk K (Itc lo c n) F (rngC lo c n) := fun i H l => by
  refine ⟨fun d hd => ?_, fun e => ?_⟩
  · have hi : i < n := by
      have := (List.getElem?_eq_some_iff.mp hd).1
      rwa [rngC_len] at this
    rw [rngC_get c n lo i hi] at hd
    cases hd
    refine ⟨hi, fun x H' y => ?_⟩
    obtain ⟨rfl, rfl⟩ := y
    exact .inl ⟨rfl, .int _⟩
  · rw [rngC_len] at e
    exact Nat.le_of_eq e
/-- a frozen list or tuple -/
theorem dq_sq {v : V} {d : D} {ds : List D} (h : Dq K F v d) (e : seqOf d = some ds) : ∃ k a vs, v = .ref a ∧ (∀ H, Le F H → Sq K k H a vs) ∧ DqAll K F vs ds := by
  cases h with
  | @lst a vs es h1 h2 => cases e; exact ⟨false, a, vs, rfl, fun H l => SqL.of (l a _ h1), h2⟩
  | @tup a vs es h1 h2 => cases e; exact ⟨true, a, vs, rfl, fun H l => l.sqT h1, h2⟩
  | _ => cases e
theorem wk_enum {k : Bool} {a : Addr} {vs : List V} {ds : List D} (h : ∀ H, Le F H → Sq K k H a vs) (q : DqAll K F vs ds) : Wk K (Itek K k a) F (enumD 0 ds) := fun i H l => by
  refine ⟨fun d hd => ?_, fun e => ⟨vs, h H l, by rw [dqAll_len q, ← e, enumD_len]⟩⟩
  have hi : i < ds.length := by
    have := (List.getElem?_eq_some_iff.mp hd).1
    rwa [enumD_len] at this
  obtain ⟨d', hd'⟩ := some_of hi
  rw [enumD_get ds 0 i d' hd'] at hd
  cases hd
  obtain ⟨v, h1, h2⟩ := dqAll_get q hd'
  refine ⟨⟨vs, v, h H l, h1⟩, fun x H' y => ?_⟩
  obtain ⟨T, z, rfl, n, rfl, y⟩ := y
  have := y vs (h H l)
  rw [h1] at this
  cases this
  refine .inr ⟨T, _, _, n, rfl, rfl, rfl, .cons ?_ (.cons h2 .nil)⟩
  have e0 : (0 : Int) + (i : Nat) = (i : Nat) := by omega
  rw [e0]
  exact .int _
theorem wk_zip {k1 k2 : Bool} {a b : Addr} {vs ws : List V} {ds es : List D} (h : ∀ H, Le F H → Sq K k1 H a vs) (h' : ∀ H, Le F H → Sq K k2 H b ws) (q : DqAll K F vs ds) (q' : DqAll K F ws es) : Wk K (Itzk K k1 k2 a b) F (zipD ds es) := fun i H l => by
  refine ⟨fun d hd => ?_, fun e => ⟨vs, ws, h H l, h' H l, by rw [dqAll_len q, dqAll_len q', ← e, zipD_len]⟩⟩
  have hi : i < min ds.length es.length := by
    have := (List.getElem?_eq_some_iff.mp hd).1
    rwa [zipD_len] at this
  obtain ⟨d1, hd1⟩ := some_of (Nat.lt_of_lt_of_le hi (Nat.min_le_left _ _))
  obtain ⟨d2, hd2⟩ := some_of (Nat.lt_of_lt_of_le hi (Nat.min_le_right _ _))
  rw [zipD_get ds es i d1 d2 hd1 hd2] at hd
  cases hd
  obtain ⟨v, h1, h2⟩ := dqAll_get q hd1
  obtain ⟨u, g1, g2⟩ := dqAll_get q' hd2
  refine ⟨⟨vs, ws, v, u, h H l, h' H l, h1, g1⟩, fun x H' y => ?_⟩
  obtain ⟨T, z, z', rfl, n, rfl, y, y'⟩ := y
  have e1 := y vs (h H l)
  have e2 := y' ws (h' H l)
  rw [h1] at e1
  rw [g1] at e2
  cases e1
  cases e2
  exact .inr ⟨T, _, _, n, rfl, rfl, rfl, .cons h2 (.cons g2 .nil)⟩
end
/-- a list, a tuple, a text -/
def iAny (K : PySem.W.Frag) (tl : TE) : TI := fun σ H R => tl σ H fun x H1 => (∃ a xs, x = .ref a ∧ SqL K H1 a xs ∧ R (Itl K a) H1) ∨ (∃ a xs, x = .ref a ∧ SqT K H1 a xs ∧ R (Itt K a) H1) ∨ ∃ z, x = .str z ∧ R (Its z) H1
theorem pi_any {X : Cx} {tg l : Expr} {tl : TE} (hl : PE X l tl) : PI X tg l (iAny X.K tl) := by
  refine ⟨fun pins s σ H R I h => ?_⟩
  -- each kind by its own rule, over the value that has come
  have one : ∀ (v : Value) (x : V) (H1 : Hp) (s1 : Shared), Inv X pins σ H1 s1 → RelV x v → ((∃ a xs, x = .ref a ∧ SqL X.K H1 a xs ∧ R (Itl X.K a) H1) ∨ (∃ a xs, x = .ref a ∧ SqT X.K H1 a xs ∧ R (Itt X.K a) H1) ∨ ∃ z, x = .str z ∧ R (Its z) H1) →
      wpAny (model X.prog X.w) X.A (pyIter v) (PIE X pins σ tg R) X.xe s1 := fun v x H1 s1 I1 r q => by
    rcases q with ⟨a, xs, rfl, hq, q⟩ | ⟨a, xs, rfl, hq, q⟩ | ⟨z, rfl, q⟩
    · cases r
      obtain ⟨its, rv, p, hz⟩ := I1.list hq
      refine wpAny_pyIter_list p.isList ?_
      exact pi_one (tk := s1.toks) I1 _ (turn_list a _) ⟨_, Heap.get?_push_size _ rfl, rfl, rfl⟩ q
    · cases r
      obtain ⟨its, rv, p, hz⟩ := I1.tuple hq
      refine wpAny_pyIter_tuple (show s1.heap.IsTuple a its.toArray from p) ?_
      exact pi_one (tk := s1.toks) I1 _ (turn_tuple a _) ⟨_, Heap.get?_push_size _ rfl, rfl, rfl⟩ q
    · obtain ⟨t, rfl⟩ := r
      cases ha : z.cps.all (· < 128)
      · exact wpAny_pyIter_wide ha (pi_one (tk := s1.toks) I1 _ (turn_str _ z t "str_iterator" (.inr rfl)) ⟨_, Heap.get?_push_size _ rfl, rfl, rfl⟩ q)
      · exact wpAny_pyIter_ascii ha (pi_one (tk := s1.toks) I1 _ (turn_str _ z t "str_ascii_iterator" (.inl rfl)) ⟨_, Heap.get?_push_size _ rfl, rfl, rfl⟩ q)
  exact thn (hl.run pins s σ H _ I h) fun v s1 ⟨x, H1, I1, r1, q1⟩ => one v x H1 s1 I1 r1 q1
section
variable {X : Cx} {W : WX} {tg a b c : Expr} {f : M Vd} {fa : M (List Vd)} {p pos : Pos}
theorem ji_seq (ha : JE X W a f) : JI X W tg a (lSeq f) := by
  refine PI.imp (pi_any ha) fun σ H R h => ?_
  obtain ⟨B, F, env, S, h⟩ := h
  refine tE_in S .refl h.bnd fun x e1 v H1 F1 l1 S1 r1 h1 => ?_
  have h1 := h1.bnd
  cases q : fz x e1 with
  | bad => rw [q] at h1; exact h1.elim
  | exc c' e' => exact absurd q (fz_noexc _ _ _ _)
  | ok d e2 =>
    rw [q] at h1
    obtain ⟨F2, l2, S2, z⟩ := S1.fz r1 q
    have h2 : Rs (match itemsOf d with | some ds => Pf.R.ok ds e2 | none => Pf.R.bad) _ _ := h1
    cases z with
    | @lst p xs ds q1 q2 => exact .inl ⟨p, xs, rfl, SqL.of (S2.fh p _ q1), h2 _ H1 F2 (l1.trans l2) S2 (wk_list q1 q2)⟩
    | @tup p xs ds q1 q2 => exact .inr (.inl ⟨p, xs, rfl, S2.fh.sqT q1, h2 _ H1 F2 (l1.trans l2) S2 (wk_tup q1 q2)⟩)
    | str z => exact .inr (.inr ⟨z, rfl, h2 _ H1 F2 (l1.trans l2) S2 (wk_str z)⟩)
    | _ => exact h2.elim
theorem ints_ok {K : PySem.W.Frag} {B : Bs} {F : Hp} {e : En} {σ : L2.St} {H : Hp} (S : SR K B F e σ H) : ∀ {vs : List V} {xs : List Vd} {is : List Int}, VRs K F σ vs xs → rdI e xs = some is → vs = is.map V.int
  | _, _, _, .nil, q => by cases q; rfl
  | _, _, is, .cons r rs, q => by
    unfold rdI at q
    split at q
    · rename_i i is' q1 q2
      cases q
      have t := S.tp r q1
      cases t
      rw [ints_ok S rs q2]
      rfl
    · cases q
theorem small_ok {i : Int} (h : small62 i = true) : -(2 ^ 62) ≤ i ∧ i < 2 ^ 62 := by
  unfold small62 at h
  have h := Nat.blt_eq.mp h
  omega
theorem rng_in {rg : List Int → Option (List D)} {K : PySem.W.Frag} {B : Bs} {F F1 : Hp} {e : En} {σ : L2.St} {H1 : Hp} {xs : List Vd} {vs : List V} {R' : It → Hp → Prop} {E : Str → En → Prop} (S1 : SR K B F1 e σ H1) (r : VRs K F1 σ vs xs)
    (h : Rs (match rdI e xs with | some is => (match rg is with | some ds => R.ok ds e | none => R.bad) | none => R.bad) (fun ds e => ∀ J H' F', Le F F' → SR K B F' e σ H' → Wk K J F' ds → R' J H') E) :
    ∃ is ds, vs = is.map V.int ∧ rg is = some ds ∧ ∀ J H' F', Le F F' → SR K B F' e σ H' → Wk K J F' ds → R' J H' := by
  cases q : rdI e xs with
  | none => rw [q] at h; exact h.elim
  | some is =>
    rw [q] at h
    simp only at h
    cases q2 : rg is with
    | none => rw [q2] at h; exact h.elim
    | some ds => rw [q2] at h; exact ⟨is, ds, ints_ok S1 r q, q2, h⟩
theorem ji_range1 (hg : Gl X "range") (hm : X.mg "range" = none) (ha : JA X W [a] fa) (hs : starEach [a] X.env = [(false, eval a X.env)] := by rfl) : JI X W tg (.Call (.Name "range" p) [a] [] pos) (lRng rng1 fa) := by
  refine PI.imp (pi_range1 hg hm ha hs) fun σ H R h => ?_
  obtain ⟨B, F, env, S, h⟩ := h
  refine tA_in S .refl h.bnd fun xs e1 vs H1 F1 l1 S1 r1 h1 => ?_
  obtain ⟨is, ds, rfl, q2, h2⟩ := rng_in S1 r1 h1
  unfold rng1 at q2
  split at q2
  · split at q2
    · rename_i j z
      rw [Bool.and_eq_true] at z
      cases q2
      obtain ⟨z1, z2⟩ := small_ok z.1
      exact ⟨j, rfl, z1, z2, h2 _ H1 F1 l1 S1 (wk_rng 0 _)⟩
    · cases q2
  · cases q2
theorem ji_range2 (hg : Gl X "range") (hm : X.mg "range" = none) (ha : JA X W [a, b] fa) (hs : starEach [a, b] X.env = [(false, eval a X.env), (false, eval b X.env)] := by rfl) (hs2 : starEach [b] X.env = [(false, eval b X.env)] := by rfl) :
    JI X W tg (.Call (.Name "range" p) [a, b] [] pos) (lRng rng2 fa) := by
  refine PI.imp (pi_range2 hg hm ha hs hs2) fun σ H R h => ?_
  obtain ⟨B, F, env, S, h⟩ := h
  refine tA_in S .refl h.bnd fun xs e1 vs H1 F1 l1 S1 r1 h1 => ?_
  obtain ⟨is, ds, rfl, q2, h2⟩ := rng_in S1 r1 h1
  unfold rng2 at q2
  split at q2
  · split at q2
    · rename_i i j z
      rw [Bool.and_eq_true, Bool.and_eq_true] at z
      cases q2
      obtain ⟨z1, z2⟩ := small_ok z.1
      obtain ⟨z3, z4⟩ := small_ok z.2.1
      exact ⟨i, j, rfl, ⟨z1, z2, z3, z4⟩, h2 _ H1 F1 l1 S1 (wk_rng i _)⟩
    · cases q2
  · cases q2
theorem ji_range3 (hg : Gl X "range") (hm : X.mg "range" = none) (ha : JA X W [a, b, c] fa) (hs : starEach [a, b, c] X.env = (false, eval a X.env) :: starEach [b, c] X.env := by rfl) (hpl : (backTo pos (starEach [b, c] X.env)).any (·.1) = false := by rfl) :
    JI X W tg (.Call (.Name "range" p) [a, b, c] [] pos) (lRng rng3 fa) := by
  refine PI.imp (pi_range3 hg hm ha hs hpl) fun σ H R h => ?_
  obtain ⟨B, F, env, S, h⟩ := h
  refine tA_in S .refl h.bnd fun xs e1 vs H1 F1 l1 S1 r1 h1 => ?_
  obtain ⟨is, ds, rfl, q2, h2⟩ := rng_in S1 r1 h1
  unfold rng3 at q2
  split at q2
  · split at q2
    · rename_i i j c z
      rw [Bool.and_eq_true, Bool.and_eq_true, Bool.and_eq_true] at z
      cases q2
      obtain ⟨z1, z2⟩ := small_ok z.1
      obtain ⟨z3, z4⟩ := small_ok z.2.1
      have z5 := of_decide_eq_true z.2.2.1
      subst z5
      exact ⟨i, j, -1, (i - j).toNat, rfl, RgC.neg z1 z2 z3 z4, h2 _ H1 F1 l1 S1 (wk_rngC i (-1) _)⟩
    · cases q2
  · cases q2
theorem ji_enum {elts : List Expr} {kk : Nat} {tpos : Pos} (hg : Gl X "enumerate") (hm : X.mg "enumerate" = none) (ha : JA X W [a] fa) (hs : starEach [a] X.env = [(false, eval a X.env)] := by rfl) : JI X W (.Tuple elts kk tpos) (.Call (.Name "enumerate" p) [a] [] pos) (lEnum fa) := by
  refine PI.imp (pi_ek hg hm ha hs) fun σ H R h => ?_
  obtain ⟨B, F, env, S, h⟩ := h
  refine tA_in S .refl h.bnd fun xs e1 vs H1 F1 l1 S1 r1 h1 => ?_
  refine fzAll_in S1 r1 h1.bnd (fzAll_noexc _ _) fun ds e2 F2 l2 S2 d2 h2 => ?_
  split at h2
  · split at h2
    · rename_i d es q
      cases d2 with
      | cons z zs =>
        cases zs
        obtain ⟨k, a', vs', rfl, hq, qa⟩ := dq_sq z q
        exact ⟨k, a', vs', rfl, hq H1 S2.fh, h2 _ H1 F2 (l1.trans l2) S2 (wk_enum hq qa)⟩
    · exact h2.elim
  · exact h2.elim
theorem ji_zip {elts : List Expr} {kk : Nat} {tpos : Pos} (hg : Gl X "zip") (hm : X.mg "zip" = none) (ha : JA X W [a, b] fa) (hs : starEach [a, b] X.env = (false, eval a X.env) :: starEach [b] X.env := by rfl) (hpl : (backTo pos (starEach [b] X.env)).any (·.1) = false := by rfl) :
    JI X W (.Tuple elts kk tpos) (.Call (.Name "zip" p) [a, b] [] pos) (lZip fa) := by
  refine PI.imp (pi_zk hg hm ha hs hpl) fun σ H R h => ?_
  obtain ⟨B, F, env, S, h⟩ := h
  refine tA_in S .refl h.bnd fun xs e1 vs H1 F1 l1 S1 r1 h1 => ?_
  refine fzAll_in S1 r1 h1.bnd (fzAll_noexc _ _) fun ds e2 F2 l2 S2 d2 h2 => ?_
  split at h2
  · split at h2
    · rename_i d d' es es' q q'
      cases d2 with
      | cons z zs =>
        cases zs with
        | cons z' zs =>
          cases zs
          obtain ⟨k, a', vs', rfl, hq, qa⟩ := dq_sq z q
          obtain ⟨k', a'', vs'', rfl, hq', qa'⟩ := dq_sq z' q'
          exact ⟨k, k', a', a'', vs', vs'', rfl, hq H1 S2.fh, hq' H1 S2.fh, h2 _ H1 F2 (l1.trans l2) S2 (wk_zip hq hq' qa qa')⟩
    · exact h2.elim
  · exact h2.elim
end
end Pf
namespace Pf
open PySem PySem.Spec PyProof.Rows L2
/-! ### comprehensions -/
def noX {α : Type} (m : M α) : M α := fun e => match m e with
  | .ok a e => .ok a e
  | _ => .bad
theorem Rs.noX {α : Type} {m : M α} {e : En} {P : α → En → Prop} {E E' : Str → En → Prop} (h : Rs (noX m e) P E) : Rs (m e) P E' := by
  unfold Pf.noX at h
  cases q : m e with
  | ok a e' => rw [q] at h; exact h
  | exc c e' => rw [q] at h; exact h.elim
  | bad => rw [q] at h; exact h.elim
def wipeE (e : En) : List Nat → En
  | [] => e
  | v :: vs => (wipeE e vs).set v .no
/-- the slots of e₀ come back -/
def backE (e₀ e : En) : List Nat → En
  | [] => e
  | v :: vs => (backE e₀ e vs).set v ((e₀[v]?).getD .no)
/-- they hold no list of their own -/
def plainS : Sl → Bool
  | .no => true
  | .va _ => true
  | .sc _ => true
  | .ow _ _ => false
  | .ob _ _ => false
def plainAt (e : En) (vs : List Nat) : Bool := vs.all fun v => match e[v]? with
  | some s => plainS s
  | none => false
def bYes : M Bool := fun e => .ok true e
def lcL (h : D → En → Option En) (tt : M Bool) (te : M Vd) (vs : List Nat) : List D → En → R (List D)
  | [] => fun e => .ok [] e
  | d :: ds => fun e => match h d e with
    | none => .bad
    | some e1 => (noX tt e1).bnd fun b e2 => if b = true then (noX te e2).bnd fun x e3 => (fz x e3).bnd fun y e4 => (lcL h tt te vs ds (wipeE e4 vs)).bnd fun ys e5 => .ok (y :: ys) e5
      else lcL h tt te vs ds (wipeE e2 vs)
def nLc (fi : M (List D)) (h : D → En → Option En) (tt : M Bool) (te : M Vd) (vs : List Nat) : M (List D) := fun env => (fi env).bnd fun ds e => if (szL ds.length && plainAt e vs) = true then
  (lcL h tt te vs ds (wipeE e vs)).bnd fun ys e' => .ok ys (backE e e' vs) else .bad
section
variable {K : PySem.W.Frag} {B : Bs} {F : Hp} {env : En} {σ : L2.St} {H : Hp}
theorem SR.setNo (S : SR K B F env σ H) (v : Nat) : SR K B F (env.set v .no) (σ.set v none) H :=
  S.put v S.same .refl S.fh S.new (by rw [List.length_set]) (fun j ne => List.getElem?_set_ne ne) (fun j s w x _ hj hv f => ⟨rfl, (S.foot hj hv f).2.1⟩)
    fun q => ⟨none, by rw [List.getElem?_set_self (by rw [S.len]; exact q)], trivial, fun x f => f.elim⟩
theorem SR.wipe (S : SR K B F env σ H) : ∀ vs : List Nat, SR K B F (wipeE env vs) (L2.wipe σ vs) H
  | [] => S
  | v :: vs => (SR.wipe S vs).setNo v
/-- a plain slot comes back -/
theorem plain_foot {s : Sl} {w : Option V} {x : Addr} (hp : plainS s = true) (f : Foot H s w x) : False := by
  cases s with
  | ow b ds => cases hp
  | ob b o => cases hp
  | _ => exact f
theorem SR.reslot {e : En} {v : Nat} {s : Sl} {w : Option V} (S : SR K B F e (σ.set v none) H) (hw : σ[v]? = some w) (h : SlR K F H B s w) (hp : plainS s = true) : SR K B F (e.set v s) σ H :=
  S.put v S.same .refl S.fh S.new (by rw [List.length_set]) (fun j ne => (List.getElem?_set_ne ne).symm) (fun j s w x _ hj hv f => ⟨rfl, (S.foot hj hv f).2.1⟩)
    fun q => ⟨w, hw, h, fun x f => (plain_foot hp f).elim⟩
theorem wipe_at {σ : L2.St} {v : Nat} : ∀ {vs : List Nat}, v ∉ vs → (L2.wipe σ vs)[v]? = σ[v]?
  | [], _ => rfl
  | u :: us, h => by
    unfold L2.wipe
    rw [List.getElem?_set_ne (fun z => h (by simp [z]))]
    exact wipe_at fun q => h (List.mem_cons_of_mem _ q)
/-- all come back -/
theorem SR.back {e0 : En} {F0 H0 : Hp} (S0 : SR K B F0 e0 σ H0) (l : Le F0 F) : ∀ {vs : List Nat} {e : En}, vs.Nodup → plainAt e0 vs = true → SR K B F e (L2.wipe σ vs) H → SR K B F (backE e0 e vs) σ H
  | [], _, _, _, S => S
  | v :: vs, e, nd, hp, S => by
    rw [List.nodup_cons] at nd
    unfold plainAt at hp
    rw [List.all_cons, Bool.and_eq_true] at hp
    have hve : v < e0.length := by
      cases q : e0[v]? with
      | none => rw [q] at hp; exact absurd hp.1 Bool.false_ne_true
      | some s => exact (List.getElem?_eq_some_iff.mp q).1
    rw [List.getElem?_eq_getElem hve] at hp
    obtain ⟨w, h1, h2⟩ := S0.sl v e0[v] (List.getElem?_eq_getElem hve)
    have hg : (e0[v]?).getD .no = e0[v] := by rw [List.getElem?_eq_getElem hve]; rfl
    unfold backE
    rw [hg]
    have step : SR K B F (e.set v e0[v]) (L2.wipe σ vs) H := by
      refine SR.reslot (σ := L2.wipe σ vs) S (by rw [wipe_at nd.1]; exact h1) ?_ hp.1
      cases q : e0[v] with
      | no => trivial
      | va d => rw [q] at h2; obtain ⟨x, e1, e2⟩ := h2; exact ⟨x, e1, l.dq e2⟩
      | sc ns => rw [q] at h2; obtain ⟨x, e1, e2⟩ := h2; exact ⟨x, e1, e2.mono l⟩
      | ow b ds => rw [q] at hp; exact absurd hp.1 Bool.false_ne_true
      | ob b o => rw [q] at hp; exact absurd hp.1 Bool.false_ne_true
    have comm : ∀ (ws : List Nat) (e : En), v ∉ ws → (backE e0 e ws).set v e0[v] = backE e0 (e.set v e0[v]) ws := by
      intro ws
      induction ws with
      | nil => intro e _; rfl
      | cons u us ih =>
        intro e hn
        unfold backE
        rw [List.set_comm _ _ (fun z => hn (by simp [z])), ih e fun q => hn (List.mem_cons_of_mem _ q)]
    rw [comm vs e nd.1]
    exact SR.back S0 l nd.2 hp.2 step
/-- an object that nobody here owns is told to stay -/
theorem SR.addH (S : SR K B F env σ H) {p : Addr} {o : HO} (h : H p = some o) (nF : F p = none) (ns : NoFt env σ H p) : SR K { B with H0 := upd B.H0 p o } F env σ H := by
  refine ⟨S.len, fun b u e => ?_, S.f0, S.fh, fun b u e => ?_, fun j s hj => ?_, S.own⟩
  · by_cases z : b = p
    · subst z
      have e : upd B.H0 b o b = some u := e
      rw [upd_same] at e
      cases e
      exact h
    · have e : upd B.H0 p o b = some u := e
      rw [upd_ne z] at e
      exact S.same b u e
  · rcases S.new b u e with q | q
    · exact .inl q
    · refine .inr ?_
      have ne : b ≠ p := fun z => by rw [z, nF] at e; cases e
      show upd B.H0 p o b = none
      rw [upd_ne ne]; exact q
  · obtain ⟨v, g1, g2⟩ := S.sl j s hj
    refine ⟨v, g1, ?_⟩
    have up : ∀ x, Foot H s v x → B.H0 x = none → upd B.H0 p o x = none := fun x f e => by
      have ne : x ≠ p := fun z => ns j s v hj g1 (z ▸ f)
      rw [upd_ne ne]; exact e
    cases s with
    | no => trivial
    | va x => exact g2
    | sc x => exact g2
    | ow bb ds =>
      obtain ⟨a, vs, e1, e2, e3, e4, e5, e6⟩ := g2
      exact ⟨a, vs, e1, e2, e3, up a e1 e4, e5, e6⟩
    | ob bb u =>
      obtain ⟨a, e1, e2, e3, e4⟩ := g2
      exact ⟨a, e1, e2, fun x f => ⟨(e3 x f).1, up x ⟨a, e1, f⟩ (e3 x f).2⟩, e4⟩
/-- .. and no longer -/
theorem SR.delH {p : Addr} {o : HO} (S : SR K { B with H0 := upd B.H0 p o } F env σ H) (n : B.H0 p = none) (n0 : B.F0 p = none) : SR K B F env σ H ∧ H p = some o ∧ F p = none ∧ NoFt env σ H p := by
  have dn : ∀ x, upd B.H0 p o x = none → B.H0 x = none := fun x q => by
    by_cases z : x = p
    · rw [z]; exact n
    · rw [upd_ne z] at q; exact q
  refine ⟨⟨S.len, fun b u e => S.same b u ?_, S.f0, S.fh, fun b u e => ?_, fun j s hj => ?_, S.own⟩, S.same p o upd_same, ?_, fun j s v hj hv f => ?_⟩
  · show upd B.H0 p o b = some u
    rw [upd_ne (ne_of_none e n)]; exact e
  · rcases S.new b u e with q | q
    · exact .inl q
    · exact .inr (dn b q)
  · obtain ⟨v, g1, g2⟩ := S.sl j s hj
    refine ⟨v, g1, ?_⟩
    cases s with
    | no => trivial
    | va x => exact g2
    | sc x => exact g2
    | ow bb ds =>
      obtain ⟨a, vs, e1, e2, e3, e4, e5, e6⟩ := g2
      exact ⟨a, vs, e1, e2, e3, dn a e4, e5, e6⟩
    | ob bb u =>
      obtain ⟨a, e1, e2, e3, e4⟩ := g2
      exact ⟨a, e1, e2, fun x f => ⟨(e3 x f).1, dn x (e3 x f).2⟩, e4⟩
  · cases q : F p with
    | none => rfl
    | some u =>
      rcases S.new p u q with z | z
      · have z : B.F0 p = some u := z
        rw [n0] at z; cases z
      · have z : upd B.H0 p o p = none := z
        rw [upd_same] at z; cases z
  · have z : upd B.H0 p o p = none := (S.foot hj hv f).2.2
    rw [upd_same] at z; cases z
end
abbrev Wno : WX := fun _ _ _ _ => False
abbrev JTs (X : Cx) (W : WX) (ifs : List Expr) (f : M Bool) : Prop := PTs X ifs (tT X.K W f)
theorem PTs.imp {X : Cx} {e : List Expr} {t t' : TT} (h : PTs X e t) (k : ∀ σ H Q, t' σ H Q → t σ H Q) : PTs X e t' := ⟨fun pins s σ H Q I q => h.run pins s σ H Q I (k σ H Q q)⟩
theorem jts_nil {X : Cx} {W : WX} : JTs X W [] bYes := PTs.imp pts_nil fun σ H Q h => by
  obtain ⟨B, F, env, S, h⟩ := h
  exact h H F .refl S
theorem jts_one {X : Cx} {W : WX} {c : Expr} {f : M Bool} (h : JT X W c f) : JTs X W [c] f := PTs.imp (pts_one h) fun _ _ _ h => h
/-- the target's store, as it runs -/
structure Tgt (K : PySem.W.Frag) (g : TG) (h : D → En → Option En) (vs : List Nat) : Prop where
  run : ∀ (B : Bs) (F : Hp) (e e' : En) (σ : L2.St) (H : Hp) (v : V) (d : D) (Q : L2.St → Hp → Prop), SR K B F e (L2.wipe σ vs) H → Dq K F v d → h d e = some e' → (∀ σ', L2.wipe σ' vs = L2.wipe σ vs → SR K B F e' σ' H → Q σ' H) → g v (L2.wipe σ vs) H Q
theorem tgt_name {K : PySem.W.Frag} (i : Nat) : Tgt K (gName i) (gN i) [i] := ⟨fun B F e e' σ H v d Q S z he k => by
  cases he
  refine k _ ?_ (S.setVa i z)
  show (((σ.set i none).set i (some v)).set i none) = σ.set i none
  rw [List.set_set, List.set_set]⟩
theorem tgt_two {K : PySem.W.Frag} {i j : Nat} (hij : i ≠ j) : Tgt K (gTup K 2 (gCons (gName i) (gCons (gName j) gNil))) (gT [i, j]) [i, j] := ⟨fun B F e e' σ H v d Q S z he k => by
  cases z with
  | @tup a xs ds q1 q2 =>
    have he : setAll [i, j] ds e = some e' := he
    cases q2 with
    | nil => cases he
    | @cons v1 vs1 d1 ds1 z1 q2 =>
      cases q2 with
      | nil => cases he
      | @cons v2 vs2 d2 ds2 z2 q2 =>
        cases q2 with
        | cons _ _ => cases he
        | nil =>
          cases he
          refine ⟨a, [v1, v2], rfl, S.fh.sqT q1, rfl, v1, [v2], rfl, v2, [], rfl, rfl, ?_⟩
          refine k _ ?_ ((S.setVa i z1).setVa j z2)
          show ((((((σ.set j none).set i none).set i (some v1)).set j (some v2)).set j none).set i none) = (σ.set j none).set i none
          rw [List.set_set, List.set_comm _ _ hij, List.set_set, List.set_comm _ _ hij, List.set_set]
          rw [List.set_set]
  | _ => cases he⟩
section
variable {K : PySem.W.Frag} {B : Bs} {F : Hp} {env : En} {σ : L2.St} {H : Hp}
/-- what nobody here owns may change -/
theorem SR.other (S : SR K B F env σ H) {p : Addr} {o : HO} (nF : F p = none) (nH : B.H0 p = none) (ns : NoFt env σ H p) : SR K B F env σ (upd H p o) :=
  S.chg (S.same.updr nH) .refl (S.fh.updr nF) S.new fun j s v x hj hv f => ⟨upd_ne fun z => ns j s v hj hv (z ▸ f), (S.foot hj hv f).2.1⟩
end
theorem wipe_sl {e : En} {j : Nat} {s : Sl} : ∀ {vs : List Nat}, (wipeE e vs)[j]? = some s → s = .no ∨ (j ∉ vs ∧ e[j]? = some s)
  | [], h => .inr ⟨by simp, h⟩
  | v :: vs, h => by
    unfold wipeE at h
    rcases getElem?_set' _ _ _ _ _ h with ⟨_, z, _⟩ | ⟨ne, h⟩
    · exact .inl z
    · rcases wipe_sl h with z | ⟨h1, h2⟩
      · exact .inl z
      · exact .inr ⟨fun q => (List.mem_cons.mp q).elim (fun z => ne z.symm) h1, h2⟩
theorem back_sl {e0 e : En} {j : Nat} {s : Sl} : ∀ {vs : List Nat}, plainAt e0 vs = true → (backE e0 e vs)[j]? = some s → plainS s = true ∨ (j ∉ vs ∧ e[j]? = some s)
  | [], _, h => .inr ⟨by simp, h⟩
  | v :: vs, hp, h => by
    unfold plainAt at hp
    rw [List.all_cons, Bool.and_eq_true] at hp
    unfold backE at h
    rcases getElem?_set' _ _ _ _ _ h with ⟨rfl, z, _⟩ | ⟨ne, h⟩
    · have hp1 := hp.1
      cases q : e0[v]? with
      | none => rw [q] at hp1; exact absurd hp1 Bool.false_ne_true
      | some s =>
        rw [q] at z hp1
        simp only [Option.getD_some] at z
        rw [← z] at hp1
        exact .inl hp1
    · rcases back_sl hp.2 h with z | ⟨h1, h2⟩
      · exact .inl z
      · exact .inr ⟨fun q => (List.mem_cons.mp q).elim (fun z => ne z.symm) h1, h2⟩
theorem NoFt.wipe {e : En} {σ : L2.St} {H : Hp} {p : Addr} {vs : List Nat} (h : NoFt e σ H p) : NoFt (wipeE e vs) (L2.wipe σ vs) H p := fun j s v hj hv f => by
  rcases wipe_sl hj with rfl | ⟨n1, n2⟩
  · exact f
  · rw [wipe_at n1] at hv
    exact h j s v n2 hv f
theorem NoFt.back {e0 e : En} {σ : L2.St} {H : Hp} {p : Addr} {vs : List Nat} (hp : plainAt e0 vs = true) (h : NoFt e (L2.wipe σ vs) H p) : NoFt (backE e0 e vs) σ H p := fun j s v hj hv f => by
  rcases back_sl hp hj with z | ⟨n1, n2⟩
  · exact plain_foot z f
  · rw [← wipe_at n1] at hv
    exact h j s v n2 hv f
theorem lc_run {K : PySem.W.Frag} {W : WX} {fi : M (List D)} {g : TG} {h : D → En → Option En} {tt : M Bool} {te : M Vd} {vs : List Nat} (T : Tgt K g h vs) (nd : vs.Nodup) {σ : L2.St} {H : Hp} {Q : VK} (q : tN K W (nLc fi h tt te vs) σ H Q) :
    tLc (tI K W fi) g (tT K Wno tt) (tE K Wno te) vs σ H Q := by
  obtain ⟨B, F, env, S, q⟩ := q
  refine tI_in S .refl q.bnd fun ds e1 J H1 F1 l1 S1 wk h1 => ?_
  split at h1
  · rename_i hz
    rw [Bool.and_eq_true] at hz
    have h1 := h1.bnd
    intro Dp nD
    have nF1 := S1.fh.none nD
    have nH := S1.same.none nD
    have nF0 : B.F0 Dp = none := S1.f0.none nF1
    obtain ⟨S1', fr⟩ := S1.fresh nD (DqAll.nil)
    refine ⟨fun i m H' => m = ds.length - i ∧ i ≤ ds.length ∧ ∃ F' e acc das, Le F1 F' ∧ SR K B F' e (L2.wipe σ vs) H' ∧ H' Dp = some (.lst acc) ∧ DqAll K F' acc das ∧ das.length ≤ i ∧ F' Dp = none ∧
        NoFt e (L2.wipe σ vs) H' Dp ∧
        Rs (lcL h tt te vs (ds.drop i) e) (fun ys e' => ∀ p H2 F2, Le F F2 → SR K B F2 (backE e1 e' vs) σ H2 → Fr K B F2 (backE e1 e' vs) σ H2 p (das ++ ys) → Q (.ref p) H2) (xW W K B F σ),
      ⟨ds.length, rfl, Nat.zero_le _, F1, wipeE e1 vs, [], [], .refl, S1'.wipe vs, upd_same, .nil, Nat.le_refl _, nF1, fr.ns.wipe, h1⟩, ?_⟩
    · rintro i m H2 ⟨rfl, hi, F2, e2, acc, das, l2, S2, hD, qa, hlen, nF2, ns2, h2⟩
      obtain ⟨w1, w2⟩ := wk i H2 (l2.trans S2.fh)
      by_cases hlt : i < ds.length
      · rw [List.drop_eq_getElem_cons hlt] at h2
        obtain ⟨go, yl⟩ := w1 _ (List.getElem?_eq_getElem hlt)
        unfold lcL at h2
        cases q3 : h ds[i] e2 with
        | none => rw [q3] at h2; exact h2.elim
        | some e3 =>
          rw [q3] at h2
          simp only at h2
          refine .inr ⟨go, fun H' => i + 1 ≤ ds.length ∧ ∃ F' e acc das, Le F1 F' ∧ SR K B F' e (L2.wipe σ vs) H' ∧ H' Dp = some (.lst acc) ∧ DqAll K F' acc das ∧ das.length ≤ i + 1 ∧ F' Dp = none ∧
            NoFt e (L2.wipe σ vs) H' Dp ∧
            Rs (lcL h tt te vs (ds.drop (i + 1)) e) (fun ys e' => ∀ p H2 F2, Le F F2 → SR K B F2 (backE e1 e' vs) σ H2 → Fr K B F2 (backE e1 e' vs) σ H2 p (das ++ ys) → Q (.ref p) H2) (xW W K B F σ),
            fun H' z => ⟨ds.length - (i + 1), by omega, rfl, z⟩, fun x H3 y => ?_⟩
          have S2' := S2.addH hD nF2 ns2
          obtain ⟨F3, l3, S3, z3⟩ := (yl x H3 y).fin l2 S2'
          refine T.run _ F3 e2 e3 σ H3 x _ _ S3 z3 q3 fun σ4 hw S4 => ⟨hw, ?_⟩
          refine tT_in S4 .refl (Rs.noX h2.bnd) fun b e5 H5 F5 l5 S5 h5 => ?_
          cases b with
          | true =>
            rw [if_pos rfl] at h5 ⊢
            refine tE_in S5 .refl (Rs.noX h5.bnd) fun x6 e6 v6 H6 F6 l6 S6 r6 h6 => ?_
            have h6 := h6.bnd
            cases q7 : fz x6 e6 with
            | bad => rw [q7] at h6; exact h6.elim
            | exc c' e' => exact absurd q7 (fz_noexc _ _ _ _)
            | ok y7 e7 =>
              rw [q7] at h6
              have h7 : Rs ((lcL h tt te vs (ds.drop (i + 1)) (wipeE e7 vs)).bnd fun ys e5 => R.ok (y7 :: ys) e5) _ _ := h6
              have h7 := h7.bnd
              obtain ⟨F7, l7, S7, z7⟩ := S6.fz r6 q7
              obtain ⟨S8, hD8, nF8, ns8⟩ := S7.delH nH nF0
              have L : Le F2 F7 := ((l3.trans l5).trans l6).trans l7
              have ns9 : NoFt (wipeE e7 vs) (L2.wipe σ vs) H6 Dp := by
                rw [← hw]
                exact ns8.wipe
              have S9 := S8.wipe vs
              rw [hw] at S9
              refine ⟨acc, hD8, ?_, hlt, F7, wipeE e7 vs, acc ++ [v6], das ++ [y7], l2.trans L, S9.other nF8 nH ns9, upd_same, dqAll_app (L.dqAll qa) (.cons z7 .nil), by simp; omega, nF8, ns9.upd, ?_⟩
              · rw [dqAll_len qa]
                have := szL_le hz.1
                exact Nat.lt_of_le_of_lt (Nat.le_trans hlen hi) (Nat.lt_of_le_of_lt this (by decide))
              · refine h7.mono (fun ys e' k p H2 F2 l S fr => k p H2 F2 l S ?_) fun c e k => k
                rw [List.append_assoc] at fr
                exact fr
          | false =>
            rw [if_neg Bool.false_ne_true] at h5 ⊢
            obtain ⟨S8, hD8, nF8, ns8⟩ := S5.delH nH nF0
            have L : Le F2 F5 := l3.trans l5
            have S9 := S8.wipe vs
            rw [hw] at S9
            refine ⟨hlt, F5, wipeE e5 vs, acc, das, l2.trans L, S9, hD8, L.dqAll qa, by omega, nF8, ?_, h5⟩
            rw [← hw]
            exact ns8.wipe
      · have e : i = ds.length := by omega
        subst e
        rw [List.drop_length] at h2
        refine .inl ⟨w2 rfl, ?_⟩
        have h3 := h2 Dp H2 F2 (l1.trans l2) (SR.back S1 l2 nd hz.2 S2)
        rw [List.append_nil] at h3
        exact h3 ⟨⟨acc, hD, qa⟩, nF2, nH, ns2.back hz.2⟩
  · exact h1.elim
theorem jn_lc {X : Cx} {W : WX} {elt tg iter : Expr} {ifs : List Expr} {scope : Scope} {own : List (Str × Nat)} {pos : Pos} {fi : M (List D)} {g : TG} {h : D → En → Option En} {tt : M Bool} {te : M Vd} {vs : List Nat} (hc : X.calm = true) (hN : X.N.Nodup) (hi : JI X W tg iter fi) (ok : BlkOk X.N X.env.scope scope own)
    (T : Tgt X.K g h vs) (hvs : own.map (·.2) = vs) (nd : vs.Nodup)
    (hg : ∀ (s : Shared) (H : Hp) (C : Addr) (cl : List (Str × Addr)) (fp : List Addr), PG (X.blk s H scope (compEnvC scope cl C X.env) fp) tg g) (ht : ∀ (s : Shared) (H : Hp) (C : Addr) (cl : List (Str × Addr)) (fp : List Addr), JTs (X.blk s H scope (compEnvC scope cl C X.env) fp) Wno ifs tt)
    (he : ∀ (s : Shared) (H : Hp) (C : Addr) (cl : List (Str × Addr)) (fp : List Addr), JE (X.blk s H scope (compEnvC scope cl C X.env) fp) Wno elt te) (hs : ∀ x, foldedSetIterable iter X.env x = pure x := by intro _; rfl) :
    JN X W (.ListComp elt [⟨tg, iter, ifs, 0⟩] scope pos) (nLc fi h tt te vs) := by
  subst hvs
  refine PE.imp (pe_lc hc hN hi ok hg ht he hs) fun σ H Q q => lc_run T nd q
end Pf
namespace Pf
open PySem PySem.Spec PyProof.Rows L2
/-! ### what a def promises -/
inductive Rf where
  | ok (d : D)
  | exc (c : Str)
  | bad
def spP (K : PySem.W.Frag) (n : Nat) (m : List D → Rf) : Sp := fun vs H Q E => vs.length = n ∧ ∃ F ds, Le F H ∧ DqAll K F vs ds ∧ match m ds with
  | .ok d => ∀ v H' F', Le H H' → Le F F' → Le F' H' → (∀ b o, F' b = some o → F b = some o ∨ H b = none) → Dq K F' v d → Q v H'
  | .exc c => ∀ H', Le H H' → E (.ref (He.ga K c)) none H'
  | .bad => False
def O.f : O → Rf
  | .rt d _ => .ok d
  | .nx _ => .ok .none
  | .ex c _ => .exc c
  | _ => .bad
def enOf (n : Nat) (ds : List D) : En := ds.map Sl.va ++ List.replicate (n - ds.length) Sl.no
/-- a def by its body: n slots -/
def runF (n : Nat) (g : En → O) (ds : List D) : Rf := (g (enOf n ds)).f
def eCall (m : List D → Rf) (fa : M (List Vd)) : M Vd := fun env => (fa env).bnd fun xs e => (fzAll xs e).bnd fun ds e => match m ds with
  | .ok d => .ok (.dat d) e
  | .exc c => .exc c e
  | .bad => .bad
/-- a promise that says less -/
theorem spP.imp {K : PySem.W.Frag} {n : Nat} {m m' : List D → Rf} (h : ∀ ds, m' ds = .bad ∨ m' ds = m ds) (vs : List V) (H : Hp) (Q : VK) (E : XK) (q : spP K n m' vs H Q E) : spP K n m vs H Q E := by
  obtain ⟨hl, F, ds, l, a, q⟩ := q
  refine ⟨hl, F, ds, l, a, ?_⟩
  rcases h ds with z | z
  · rw [z] at q; exact q.elim
  · rw [z] at q; exact q
theorem fnImp {P : Program} {w : World} {K : PySem.W.Frag} {mg : Str → Option Value} {base : Heap} {C : CXT} {k : Nat} {f : Addr} {fd : FuncData} {ps : List Str} {n : Nat} {m m' : List D → Rf} (F : FnOk P w K mg base C k f fd ps (spP K n m)) (h : ∀ ds, m' ds = .bad ∨ m' ds = m ds) : FnOk P w K mg base C k f fd ps (spP K n m') :=
  F.imp fun vs H Q E q => spP.imp h vs H Q E q
theorem st_start {K : PySem.W.Frag} {F H : Hp} {t u : Addr} (N : List Str) {vs : List V} {ds : List D} (l : Le F H) (a : DqAll K F vs ds) : SR K ⟨H, F, t, u⟩ F (enOf N.length ds) (start N vs) H := by
  have hl := dqAll_len a
  refine ⟨?_, .refl, .refl, l, fun b o e => .inl e, fun i s hs => ?_, fun i j s s' v w x ne h1 h2 h3 h4 fo => ?_⟩
  · unfold L2.start enOf
    simp [hl]
  · unfold enOf at hs
    unfold L2.start
    by_cases hi : i < ds.length
    · rw [List.getElem?_append_left (by simpa using hi), List.getElem?_map] at hs
      obtain ⟨d, hd⟩ := some_of hi
      rw [hd] at hs
      cases hs
      obtain ⟨v, e1, e2⟩ := dqAll_get a hd
      refine ⟨some v, ?_, v, rfl, e2⟩
      rw [List.getElem?_append_left (by simpa [hl] using hi), List.getElem?_map, e1]
      rfl
    · rw [List.getElem?_append_right (by simpa using hi), List.getElem?_replicate] at hs
      split at hs
      · rename_i z
        cases hs
        refine ⟨none, ?_, trivial⟩
        rw [List.getElem?_append_right (by simpa [hl] using hi), List.getElem?_replicate]
        simp only [List.length_map] at z ⊢
        rw [hl, if_pos z]
      · cases hs
  · unfold enOf at h1
    by_cases hi : i < ds.length
    · rw [List.getElem?_append_left (by simpa using hi), List.getElem?_map] at h1
      obtain ⟨d, hd⟩ := some_of hi
      rw [hd] at h1
      cases h1
      exact fo.elim
    · rw [List.getElem?_append_right (by simpa using hi), List.getElem?_replicate] at h1
      split at h1
      · cases h1
        exact fo.elim
      · cases h1
/-- the wish of a def that lets out what its promise tells -/
abbrev WD (E : XK) : WX := fun cls d _ H => E cls d H
theorem fn_pure {P : Program} {w : World} {K : PySem.W.Frag} {mg : Str → Option Value} {base : Heap} {x qual : Str} {params : Arguments} {body : List Stmt} {scope : Scope} {f : Addr} {fd : FuncData} {N ps : List Str} {k : Nat} {g : En → O} (F : FunD K x qual params body scope [] [] f fd) (S : FnScope N ps scope)
    (hb : ∀ (cdv : Value) (A : Around) (outer : List Env) (s : Shared) (H : Hp) (E : XK), Room k (A.deeper (envOfC qual scope s.heap.objs.size f cdv)) → JB (cxOf (L2N.CX P w) P w K mg base N qual scope f cdv A outer s H E) (WD E) body g) :
    FnOk P w K mg base (L2N.CX P w) (k + 1) f fd ps (spP K ps.length (runF N.length g)) := by
  refine F.ok S (fun vs H Q E h => h.1) fun cdv A outer s H vs Q E hr h => ⟨_, hb cdv A outer s H E hr, ?_⟩
  obtain ⟨_, F0, ds, l, a, h⟩ := h
  refine ⟨⟨H, F0, 0, 0⟩, F0, enOf N.length ds, st_start N l a, ?_⟩
  have S0 : SR K ⟨H, F0, 0, 0⟩ F0 (enOf N.length ds) (start N vs) H := st_start N l a
  unfold runF at h
  cases q : g (enOf N.length ds) with
  | nx e =>
    rw [q] at h
    intro σ' H' F' l' S'
    exact h .non H' F' S'.same l' S'.fh S'.new .non
  | rt d e =>
    rw [q] at h
    intro v σ' H' F' l' S' z
    exact h v H' F' S'.same l' S'.fh S'.new z
  | ex c e =>
    rw [q] at h
    intro σ' H' F' l' S'
    exact h H' S'.same
  | bk e => rw [q] at h; exact h.elim
  | ct e => rw [q] at h; exact h.elim
  | bad => rw [q] at h; exact h.elim
theorem takes_no {X : Cx} : L2N.Takes X Wno := fun u s' h => by
  obtain ⟨_, _, _, _, _, _, _, _, _, _, _, _, _, _, _, _, z⟩ := h
  exact z.elim
section
variable {X : Cx} {W : WX} {x : Str} {p pos : Pos} {e : Expr} {es : List Expr} {fa : M (List Vd)} {m : List D → Rf} {k n : Nat} {f : Addr} {fd : FuncData} {ps : List Str}
theorem _root_.Pf.VRs.len {K : PySem.W.Frag} {F : Hp} {σ : L2.St} : ∀ {vs : List V} {ds : List Vd}, VRs K F σ vs ds → vs.length = ds.length
  | _, _, .nil => rfl
  | _, _, .cons _ b => by simp [VRs.len b]
theorem call_in {σ : L2.St} {H : Hp} {Q : VK} (h : tE X.K W (eCall m fa) σ H Q) (hn : ∀ xs ds e e', fzAll xs e = R.ok ds e' → m ds ≠ .bad → xs.length = n) : tCallS (spP X.K n m) (WE W) (tA X.K W fa) σ H Q := by
  obtain ⟨B, F, env, S, h⟩ := h
  refine tA_in S .refl h.bnd fun xs e1 vs H1 F1 l1 S1 r1 h1 => ?_
  have h1 := h1.bnd
  cases q : fzAll xs e1 with
  | bad => rw [q] at h1; exact h1.elim
  | exc c' e' => exact absurd q (fzAll_noexc _ _ _ _)
  | ok ds e2 =>
    rw [q] at h1
    obtain ⟨F2, l2, S2, z⟩ := SR.fzAll S1 r1 q
    have h2 : Rs (match m ds with | .ok d => R.ok (Vd.dat d) e2 | .exc c => R.exc c e2 | .bad => R.bad) _ _ := h1
    have hb : m ds ≠ .bad := fun z => by rw [z] at h2; exact h2.elim
    have hxl : vs.length = xs.length := r1.len
    refine ⟨by rw [hxl]; exact hn xs ds e1 e2 q hb, F2, ds, S2.fh, z, ?_⟩
    cases q3 : m ds with
    | ok d =>
      rw [q3] at h2
      intro v H' F' lH lF fH nw zd
      exact h2 v H' F' ((l1.trans l2).trans lF) (S2.grow lF lH fH nw) zd
    | exc c =>
      rw [q3] at h2
      intro H' lH
      exact h2 H' F2 (l1.trans l2) (S2.grow .refl lH (S2.fh.trans lH) fun b o e => .inl e)
    | bad => rw [q3] at h2; exact h2.elim
/-- m asks for just n arguments -/
def Ar (n : Nat) (m : List D → Rf) : List D → Rf := fun ds => if ds.length = n then m ds else .bad
theorem fzAll_len : ∀ {xs : List Vd} {e e' : En} {ds : List D}, fzAll xs e = .ok ds e' → ds.length = xs.length
  | [], _, _, _, h => by cases h; rfl
  | x :: xs, e, e', ds, h => by
    unfold fzAll at h
    cases q : fz x e with
    | bad => rw [q] at h; cases h
    | exc c e2 => rw [q] at h; cases h
    | ok d e1 =>
      rw [q] at h
      have h : (fzAll xs e1).bnd (fun ds e => R.ok (d :: ds) e) = R.ok ds e' := h
      cases q2 : fzAll xs e1 with
      | bad => rw [q2] at h; cases h
      | exc c e2 => rw [q2] at h; cases h
      | ok ds' e2 =>
        rw [q2] at h
        cases h
        simp [fzAll_len q2]
theorem ar_len {xs : List Vd} {ds : List D} {e e' : En} (h : fzAll xs e = .ok ds e') (hb : Ar n m ds ≠ .bad) : xs.length = n := by
  rw [← fzAll_len h]
  unfold Ar at hb
  by_cases z : ds.length = n
  · exact z
  · rw [if_neg z] at hb; exact absurd rfl hb
theorem fnAr {P : Program} {w : World} {K : PySem.W.Frag} {mg : Str → Option Value} {base : Heap} {C : CXT} (F : FnOk P w K mg base C k f fd ps (spP K n m)) : FnOk P w K mg base C k f fd ps (spP K n (Ar n m)) :=
  fnImp F fun ds => by
    unfold Ar
    split
    · exact .inr rfl
    · exact .inl rfl
theorem je_call (F : FnOk X.prog X.w X.K X.mg X.base (L2N.CX X.prog X.w) k f fd ps (spP X.K n m)) (hr : Room k X.A) (hg : Gl X x) (hm : X.mg x = some (.ref f)) (hk : PySem.W.keepIn X.K (.ref f) = true) (hb : Binds X.K fd ps []) (tk : L2N.Takes X W)
    (ha : JA X W (e :: es) fa) (hdb : (x == ("__debug__" : Str)) = false := by decide) (he : starEach (e :: es) X.env = (false, eval e X.env) :: starEach es X.env := by rfl) (hpl : (backTo pos (starEach es X.env)).any (·.1) = false := by rfl) :
    JE X W (.Call (.Name x p) (e :: es) [] pos) (eCall (Ar n m) fa) :=
  PE.imp (pe_callS (fnAr F) hr hg hm hk hb (fun σ => L2N.passAt tk σ) ha hdb he hpl) fun σ H Q h => call_in h fun xs ds e e' q hb => ar_len q hb
/-- no exception leaves -/
theorem FnOk.no {P : Program} {w : World} {K : PySem.W.Frag} {mg : Str → Option Value} {base : Heap} {sp : Sp} (F : FnOk P w K mg base (L2N.CX P w) k f fd ps sp) : FnOk P w K mg base CX0 k f fd ps (fun vs H Q _ => sp vs H Q fun _ _ _ => False) :=
  ⟨fun vs H Q E h => F.len vs H Q _ h, fun A outer s H args us vs Q E hr he hb hv hs => codeAny_mono (F.run A outer s H args us vs Q _ hr he hb hv hs) fun r s' hq => by
    cases r with
    | ok fl =>
      cases fl with
      | ret u => exact hq
      | next => exact hq
      | brk => exact hq
      | cont => exact hq
    | error e =>
      obtain ⟨_, _, _, _, _, _, _, _, _, _, _, _, z⟩ := hq
      exact z.elim⟩
def eCall0 (m : List D → Rf) : M Vd := fun env => match m [] with
  | .ok d => .ok (.dat d) env
  | _ => .bad
theorem je_call0 (F : FnOk X.prog X.w X.K X.mg X.base (L2N.CX X.prog X.w) k f fd ps (spP X.K 0 m)) (hr : Room k X.A) (hg : Gl X x) (hm : X.mg x = some (.ref f)) (hk : PySem.W.keepIn X.K (.ref f) = true) (hb : Binds X.K fd ps [])
    (hdb : (x == ("__debug__" : Str)) = false := by decide) : JE X W (.Call (.Name x p) [] [] pos) (eCall0 m) := by
  refine PE.imp (pe_call0 (FnOk.no F) hr hg hm hk hb .nil (L2.pass0) hdb) fun σ H Q h => ?_
  obtain ⟨B, F, env, S, h⟩ := h
  refine ⟨rfl, F, [], S.fh, .nil, ?_⟩
  unfold eCall0 at h
  cases q : m [] with
  | ok d =>
    rw [q] at h
    intro v H' F' lH lF fH nw zd
    exact h v H' F' lF (S.grow lF lH fH nw) zd
  | exc c => rw [q] at h; exact h.elim
  | bad => rw [q] at h; exact h.elim
end
/-! ### name = [.. for ..] -/
section
variable {X : Cx} {W : WX} {elt tg iter : Expr} {ifs : List Expr} {scope : Scope} {own : List (Str × Nat)} {pos spos py : Pos} {fi : M (List D)} {g : TG} {h : D → En → Option En} {tt : M Bool} {te : M Vd} {vs : List Nat} {i : Nat} {y : Str}
theorem js_lcSet (hc : X.calm = true) (hN : X.N.Nodup) (hy : X.N[i]? = some y) (hyl : X.env.scope.names.lookup y = some .local) (hsw : swapsWith (.ListComp elt [⟨tg, iter, ifs, 0⟩] scope pos) (some (.Name y py)) spos.line X.env = pure true) (hi : JI X W tg iter fi) (ok : BlkOk X.N X.env.scope scope own)
    (T : Tgt X.K g h vs) (hvs : own.map (·.2) = vs) (nd : vs.Nodup)
    (hg : ∀ (s : Shared) (H : Hp) (C : Addr) (cl : List (Str × Addr)) (fp : List Addr), PG (X.blk s H scope (compEnvC scope cl C X.env) fp) tg g) (ht : ∀ (s : Shared) (H : Hp) (C : Addr) (cl : List (Str × Addr)) (fp : List Addr), JTs (X.blk s H scope (compEnvC scope cl C X.env) fp) Wno ifs tt)
    (he : ∀ (s : Shared) (H : Hp) (C : Addr) (cl : List (Str × Addr)) (fp : List Addr), JE (X.blk s H scope (compEnvC scope cl C X.env) fp) Wno elt te) (hs : ∀ x, foldedSetIterable iter X.env x = pure x := by intro _; rfl) :
    JS X W (.Assign [.Name y py] (.ListComp elt [⟨tg, iter, ifs, 0⟩] scope pos) spos) (sSet i (eN (nLc fi h tt te vs))) := by
  subst hvs
  refine PS.imp (ps_setLc hc hN hy hyl hsw hi ok hg ht he hs) fun D σ H q => lc_run T nd ?_
  obtain ⟨B, F, env, S, q⟩ := q
  have q1 := (Os.r (σ := σ) q).bnd
  refine tN_in S .refl q1 fun ds e1 p H1 F1 l1 S1 fr h1 => ?_
  obtain ⟨F', l', S', d⟩ := S1.frzN fr
  exact h1 _ H1 F' (l1.trans l') (S'.setVa i d)
theorem js_lcOwn (hc : X.calm = true) (hN : X.N.Nodup) (hy : X.N[i]? = some y) (hyl : X.env.scope.names.lookup y = some .local) (hsw : swapsWith (.ListComp elt [⟨tg, iter, ifs, 0⟩] scope pos) (some (.Name y py)) spos.line X.env = pure true) (hi : JI X W tg iter fi) (ok : BlkOk X.N X.env.scope scope own)
    (T : Tgt X.K g h vs) (hvs : own.map (·.2) = vs) (nd : vs.Nodup)
    (hg : ∀ (s : Shared) (H : Hp) (C : Addr) (cl : List (Str × Addr)) (fp : List Addr), PG (X.blk s H scope (compEnvC scope cl C X.env) fp) tg g) (ht : ∀ (s : Shared) (H : Hp) (C : Addr) (cl : List (Str × Addr)) (fp : List Addr), JTs (X.blk s H scope (compEnvC scope cl C X.env) fp) Wno ifs tt)
    (he : ∀ (s : Shared) (H : Hp) (C : Addr) (cl : List (Str × Addr)) (fp : List Addr), JE (X.blk s H scope (compEnvC scope cl C X.env) fp) Wno elt te) (hs : ∀ x, foldedSetIterable iter X.env x = pure x := by intro _; rfl) :
    JS X W (.Assign [.Name y py] (.ListComp elt [⟨tg, iter, ifs, 0⟩] scope pos) spos) (sOwn i (nLc fi h tt te vs)) := by
  subst hvs
  refine PS.imp (ps_setLc hc hN hy hyl hsw hi ok hg ht he hs) fun D σ H q => lc_run T nd ?_
  obtain ⟨B, F, env, S, q⟩ := q
  refine tN_in S .refl (Os.r q) fun ds e1 p H1 F1 l1 S1 fr h1 => ?_
  obtain ⟨vs', q1, q2⟩ := fr.at_
  exact h1 _ H1 F1 l1 (S1.setOw i q1 fr.nF fr.nH q2 fr.ns)
end
end Pf
namespace Pf
open PySem PySem.Spec PyProof.Rows L2
/-! ### built-ins by data -/
inductive TpAll (K : PySem.W.Frag) (F H : Hp) : List V → List D → Prop
  | nil : TpAll K F H [] []
  | cons {v : V} {vs : List V} {d : D} {ds : List D} : Tp K F H v d → TpAll K F H vs ds → TpAll K F H (v :: vs) (d :: ds)
def rdAll (e : En) : List Vd → Option (List D)
  | [] => some []
  | x :: xs => match rd e x, rdAll e xs with
    | some d, some ds => some (d :: ds)
    | _, _ => none
theorem SR.tpAll {K : PySem.W.Frag} {B : Bs} {F : Hp} {e : En} {σ : L2.St} {H : Hp} (S : SR K B F e σ H) : ∀ {vs : List V} {xs : List Vd} {ds : List D}, VRs K F σ vs xs → rdAll e xs = some ds → TpAll K F H vs ds
  | _, _, _, .nil, q => by cases q; exact .nil
  | _, _, _, .cons r rs, q => by
    unfold rdAll at q
    split at q
    · rename_i d ds q1 q2
      cases q
      exact .cons (S.tp r q1) (SR.tpAll S rs q2)
    · cases q
def RDC (K : PySem.W.Frag) (r : List V → Hp → VK → Prop) (g : List D → Option D) : Prop := ∀ (F H : Hp) (vs : List V) (as : List D) (d : D), Le F H → TpAll K F H vs as → g as = some d → ∀ Q : VK, (∀ v H', Res K F H v H' d → Q v H') → r vs H Q
def eB (g : List D → Option D) (fa : M (List Vd)) : M Vd := fun env => (fa env).bnd fun xs e => match rdAll e xs with
  | some as => (match g as with
    | some d => .ok (.dat d) e
    | none => .bad)
  | none => .bad
section
variable {X : Cx} {W : WX} {x : Str} {p pos : Pos} {e : Expr} {es : List Expr} {fa : M (List Vd)} {id T : String} {r : List V → Hp → VK → Prop} {g : List D → Option D}
theorem runB (hr : RDC X.K r g) {σ : L2.St} {H : Hp} {Q : VK} (h : tE X.K W (eB g fa) σ H Q) : tCB r (tA X.K W fa) σ H Q := by
  obtain ⟨B, F, env, S, h⟩ := h
  refine tA_in S .refl h.bnd fun xs e1 vs H1 F1 l1 S1 r1 h1 => ?_
  cases q1 : rdAll e1 xs with
  | none => rw [q1] at h1; exact h1.elim
  | some as =>
    rw [q1] at h1
    simp only at h1
    cases q2 : g as with
    | none => rw [q2] at h1; exact h1.elim
    | some d =>
      rw [q2] at h1
      exact hr F1 H1 vs as d S1.fh (S1.tpAll r1 q1) q2 Q fun v' H' res =>
        let ⟨F', l', S', z⟩ := res.fin S1
        h1 v' H' F' (l1.trans l') S' z
theorem je_callB (hc : CallR X (.builtin id) r) (hr : RDC X.K r g) (hg : Gl X x) (hm : X.mg x = none) (hv : bootBuiltins x = some (.builtin id)) (ha : JA X W (e :: es) fa) (hn : x ≠ "__name__" := by decide) (hdb : (x == ("__debug__" : Str)) = false := by decide)
    (he : starEach (e :: es) X.env = (false, eval e X.env) :: starEach es X.env := by rfl) (hpl : (backTo pos (starEach es X.env)).any (·.1) = false := by rfl) : JE X W (.Call (.Name x p) (e :: es) [] pos) (eB g fa) :=
  PE.imp (pe_callB hc hg hm hv ha hn hdb he hpl) fun _ _ _ h => runB hr h
theorem je_callTy (hc : CallR X (.type T) r) (hr : RDC X.K r g) (hg : Gl X x) (hm : X.mg x = none) (hv : bootBuiltins x = some (.type T)) (ha : JA X W (e :: es) fa) (hn : x ≠ "__name__" := by decide) (hdb : (x == ("__debug__" : Str)) = false := by decide)
    (he : starEach (e :: es) X.env = (false, eval e X.env) :: starEach es X.env := by rfl) (hpl : (backTo pos (starEach es X.env)).any (·.1) = false := by rfl) : JE X W (.Call (.Name x p) (e :: es) [] pos) (eB g fa) :=
  PE.imp (pe_callTy hc hg hm hv ha hn hdb he hpl) fun _ _ _ h => runB hr h
end
def gLen : List D → Option D
  | [.list ds] => some (.int ds.length)
  | [.tuple ds] => some (.int ds.length)
  | [.str z] => if szL z.length = true then some (.int z.length) else none
  | _ => none
def gMin : List D → Option D
  | [.int i, .int j] => some (.int (if j < i then j else i))
  | _ => none
def intsOf : List D → Option (List Int)
  | [] => some []
  | .int i :: ds => (intsOf ds).map (i :: ·)
  | _ :: _ => none
def bools : List D → Option (List Bool)
  | [] => some []
  | .bool b :: ds => (bools ds).map (b :: ·)
  | _ :: _ => none
def maxI : Int → List Int → Int
  | a, [] => a
  | a, b :: l => maxI (if a < b then b else a) l
def gMax : List D → Option D
  | [.list ds] => (match intsOf ds with
    | some (a :: l) => some (.int (maxI a l))
    | _ => none)
  | _ => none
def gAll : List D → Option D
  | [.list ds] => (match bools ds with
    | some bs => some (.bool (bs.all id))
    | none => none)
  | _ => none
def gTuple : List D → Option D
  | [.list ds] => some (.tuple ds)
  | [.tuple ds] => some (.tuple ds)
  | _ => none
theorem ints_dq {K : PySem.W.Frag} {F : Hp} : ∀ {vs : List V} {ds : List D} {ns : List Int}, DqAll K F vs ds → intsOf ds = some ns → vs = ns.map V.int
  | _, _, _, .nil, q => by cases q; rfl
  | _, _, _, .cons a b, q => by
    cases a with
    | int i =>
      unfold intsOf at q
      rename_i ds'
      cases q2 : intsOf ds' with
      | none => rw [q2] at q; cases q
      | some l =>
        rw [q2] at q
        cases q
        rw [ints_dq b q2]
        rfl
    | _ => cases q
theorem bools_dq {K : PySem.W.Frag} {F : Hp} : ∀ {vs : List V} {ds : List D} {ns : List Bool}, DqAll K F vs ds → bools ds = some ns → vs = ns.map V.bl
  | _, _, _, .nil, q => by cases q; rfl
  | _, _, _, .cons a b, q => by
    cases a with
    | bl i =>
      unfold bools at q
      rename_i ds'
      cases q2 : bools ds' with
      | none => rw [q2] at q; cases q
      | some l =>
        rw [q2] at q
        cases q
        rw [bools_dq b q2]
        rfl
    | _ => cases q
theorem maxI_mem : ∀ (l : List Int) (a : Int), maxI a l = a ∨ maxI a l ∈ l
  | [], _ => .inl rfl
  | b :: l, a => by
    unfold maxI
    rcases maxI_mem l (if a < b then b else a) with h | h
    · rw [h]
      split
      · exact .inr List.mem_cons_self
      · exact .inl rfl
    · exact .inr (List.mem_cons_of_mem _ h)
theorem maxI_ge : ∀ (l : List Int) (a : Int), a ≤ maxI a l ∧ ∀ x ∈ l, x ≤ maxI a l
  | [], a => ⟨Int.le_refl _, fun _ h => nomatch h⟩
  | b :: l, a => by
    unfold maxI
    obtain ⟨h1, h2⟩ := maxI_ge l (if a < b then b else a)
    have h3 : a ≤ (if a < b then b else a) ∧ b ≤ (if a < b then b else a) := by split <;> omega
    refine ⟨by omega, fun x hx => ?_⟩
    rcases List.mem_cons.mp hx with rfl | hx
    · omega
    · exact h2 x hx
section
variable {X : Cx} {K : PySem.W.Frag}
abbrev rLenA (K : PySem.W.Frag) : List V → Hp → VK → Prop := fun xs H Q => (∃ p ys, xs = [.ref p] ∧ (SqL K H p ys ∨ SqT K H p ys) ∧ Q (.int ys.length) H) ∨ ∃ z, xs = [.str z] ∧ z.length ≤ sizeLine ∧ Q (.int z.length) H
theorem c_len : CallR X (.builtin "len") (rLenA X.K) := call_len_seq.or call_len_str
theorem d_len : RDC K (rLenA K) gLen := by
  intro F H vs as d l t e Q k
  cases t with
  | nil => cases e
  | cons t ts =>
    cases ts with
    | cons _ _ => cases t <;> cases e
    | nil =>
      cases t with
      | @lst p xs ds h1 h2 =>
        cases e
        refine .inl ⟨p, xs, rfl, .inl (SqL.of h1), ?_⟩
        rw [dqAll_len h2]
        exact k _ H (.same (.int _))
      | @tup p xs ds h1 h2 =>
        cases e
        refine .inl ⟨p, xs, rfl, .inr (l.sqT h1), ?_⟩
        rw [dqAll_len h2]
        exact k _ H (.same (.int _))
      | str z =>
        unfold gLen at e
        simp only at e
        split at e
        · rename_i hz; cases e; exact .inr ⟨z, rfl, szL_line hz, k _ H (.same (.int _))⟩
        · cases e
      | _ => cases e
theorem d_min : RDC K (fun xs H Q => ∃ i j, xs = [.int i, .int j] ∧ Q (.int (if j < i then j else i)) H) gMin := by
  intro F H vs as d l t e Q k
  cases t with
  | nil => cases e
  | cons t ts =>
    cases ts with
    | nil => cases t <;> cases e
    | cons t2 ts =>
      cases ts with
      | cons _ _ => cases t <;> cases t2 <;> cases e
      | nil =>
        cases t with
        | int i =>
          cases t2 with
          | int j => cases e; exact ⟨i, j, rfl, k _ H (.same (.int _))⟩
          | _ => cases e
        | _ => cases e
theorem d_max : RDC K (rMax K) gMax := by
  intro F H vs as d l t e Q k
  cases t with
  | nil => cases e
  | cons t ts =>
    cases ts with
    | cons _ _ => cases t <;> cases e
    | nil =>
      cases t with
      | @lst p xs ds h1 h2 =>
        unfold gMax at e
        simp only at e
        split at e
        · rename_i a l' q
          cases e
          have hv := ints_dq h2 q
          subst hv
          refine ⟨p, a :: l', rfl, SqL.of h1, Nat.succ_pos _, fun m hm hy => ?_⟩
          have e1 : m = maxI a l' := by
            obtain ⟨g1, g2⟩ := maxI_ge l' a
            have up : maxI a l' ≤ m := by
              rcases maxI_mem l' a with z | z
              · rw [z]; exact hy a List.mem_cons_self
              · exact hy _ (List.mem_cons_of_mem _ z)
            have dn : m ≤ maxI a l' := by
              rcases List.mem_cons.mp hm with rfl | z
              · exact g1
              · exact g2 m z
            omega
          subst e1
          exact k _ H (.same (.int _))
        · cases e
      | _ => cases e
theorem d_all : RDC K (rAll K) gAll := by
  intro F H vs as d l t e Q k
  cases t with
  | nil => cases e
  | cons t ts =>
    cases ts with
    | cons _ _ => cases t <;> cases e
    | nil =>
      cases t with
      | @lst p xs ds h1 h2 =>
        unfold gAll at e
        simp only at e
        split at e
        · rename_i bs q
          cases e
          have hv := bools_dq h2 q
          subst hv
          exact ⟨p, bs, rfl, SqL.of h1, k _ H (.same (.bl _))⟩
        · cases e
      | _ => cases e
theorem d_tuple : RDC K (fun xs H Q => ∃ p ys, xs = [.ref p] ∧ ((SqL K H p ys ∧ ∀ l, H l = none → Q (.ref l) (upd H l (.tup ys))) ∨ (SqT K H p ys ∧ Q (.ref p) H))) gTuple := by
  intro F H vs as d l t e Q k
  cases t with
  | nil => cases e
  | cons t ts =>
    cases ts with
    | cons _ _ => cases t <;> cases e
    | nil =>
      cases t with
      | @lst p xs ds h1 h2 => cases e; exact ⟨p, xs, rfl, .inl ⟨SqL.of h1, fun r n => k _ _ (.tup n h2)⟩⟩
      | @tup p xs ds h1 h2 => cases e; exact ⟨p, xs, rfl, .inr ⟨l.sqT h1, k _ H (.same (.tup h1 h2))⟩⟩
      | _ => cases e
end
/-! list(x): a new list -/
def nList (fa : M (List Vd)) : M (List D) := fun env => (fa env).bnd fun xs e => match rdAll e xs with
  | some [d] => (match seqOf d with
    | some ds => .ok ds e
    | none => .bad)
  | _ => .bad
section
variable {X : Cx} {W : WX} {p pos : Pos} {e a b : Expr} {fa : M (List Vd)} {f : M Vd}
theorem jn_list (hg : Gl X "list") (hm : X.mg "list" = none) (ha : JA X W [e] fa) (he : starEach [e] X.env = (false, eval e X.env) :: starEach [] X.env := by rfl) (hpl : (backTo pos (starEach [] X.env)).any (·.1) = false := by rfl) : JN X W (.Call (.Name "list" p) [e] [] pos) (nList fa) := by
  refine PE.imp (pe_callTy call_list_of hg hm PyProof.Rows.boot_list ha (by decide) (by decide) he hpl) fun σ H Q h => ?_
  obtain ⟨B, F, env, S, h⟩ := h
  refine tA_in S .refl h.bnd fun xs e1 vs H1 F1 l1 S1 r1 h1 => ?_
  cases q1 : rdAll e1 xs with
  | none => rw [q1] at h1; exact h1.elim
  | some as =>
    rw [q1] at h1
    have t := S1.tpAll r1 q1
    cases t with
    | nil => exact h1.elim
    | cons t ts =>
      cases ts with
      | cons _ _ => exact h1.elim
      | nil =>
        cases t with
        | @lst a xs' ds g1 g2 =>
          refine ⟨a, xs', rfl, .inl (SqL.of g1), fun r n => ?_⟩
          obtain ⟨S3, fr⟩ := S1.fresh n g2
          exact h1 r _ F1 l1 S3 fr
        | @tup a xs' ds g1 g2 =>
          refine ⟨a, xs', rfl, .inr (S1.fh.sqT g1), fun r n => ?_⟩
          obtain ⟨S3, fr⟩ := S1.fresh n g2
          exact h1 r _ F1 l1 S3 fr
        | _ => exact h1.elim
/-! isinstance -/
def tyD : D → String
  | .none => "NoneType"
  | .bool _ => "bool"
  | .int _ => "int"
  | .str _ => "str"
  | .list _ => "list"
  | .tuple _ => "tuple"
  | .dict _ => "dict"
theorem tp_ty {K : PySem.W.Frag} {F H : Hp} (l : Le F H) {v : V} {d : D} (t : Tp K F H v d) : TyX K H v (.type (tyD d)) := by
  cases t with
  | non => exact .base .non
  | bl b => exact .base (.bl b)
  | int i => exact .base (.int i)
  | str x => exact .base (.str x)
  | lst h _ => exact .base (.lst h)
  | tup h _ =>
    rcases l.sqT h with (h | ⟨o, h⟩) | ⟨o, its, n, h, c, _⟩
    · exact .base (.tup h)
    · exact .fTuple h
    · exact .kTuple h c
/-- isinstance(x, T), T a built-in type: what it tells of the kinds of data -/
structure IsTy (T : String) (k : String → Bool) : Prop where
  non : kitB "NoneType" T = some (k "NoneType")
  bl : kitB "bool" T = some (k "bool")
  int : kitB "int" T = some (k "int")
  str : kitB "str" T = some (k "str")
  lst : kitB "list" T = some (k "list")
  tup : kitB "tuple" T = some (k "tuple")
def gIsi (k : String → Bool) (d : D) : Option D := match d with
  | .dict _ => none
  | d => some (.bool (k (tyD d)))
def kInt (s : String) : Bool := s == "int" || s == "bool"
def kBool (s : String) : Bool := s == "bool"
def kTup (s : String) : Bool := s == "tuple"
def kStr (s : String) : Bool := s == "str"
theorem isInt : IsTy "int" kInt := ⟨by decide +kernel, by decide +kernel, by decide +kernel, by decide +kernel, by decide +kernel, by decide +kernel⟩
theorem isBool : IsTy "bool" kBool := ⟨by decide +kernel, by decide +kernel, by decide +kernel, by decide +kernel, by decide +kernel, by decide +kernel⟩
theorem isTup : IsTy "tuple" kTup := ⟨by decide +kernel, by decide +kernel, by decide +kernel, by decide +kernel, by decide +kernel, by decide +kernel⟩
theorem isStr : IsTy "str" kStr := ⟨by decide +kernel, by decide +kernel, by decide +kernel, by decide +kernel, by decide +kernel, by decide +kernel⟩
theorem je_isi {T : String} {x : Str} {k : String → Bool} {p2 : Pos} (ht : IsTy T k) (hg : Gl X "isinstance") (hm : X.mg "isinstance" = none) (hg2 : Gl X x) (hm2 : X.mg x = none) (hv : bootBuiltins x = some (.type T)) (ha : JE X W a f) (hn : x ≠ "__name__" := by decide) (hdb : (x == ("__debug__" : Str)) = false := by decide)
    (he : starEach [a, .Name x p2] X.env = (false, eval a X.env) :: starEach [.Name x p2] X.env := by rfl) (he2 : starEach [.Name x p2] X.env = (false, eval (.Name x p2) X.env) :: starEach [] X.env := by rfl) (hpl : (backTo pos (starEach [.Name x p2] X.env)).any (·.1) = false := by rfl) :
    JE X W (.Call (.Name "isinstance" p) [a, .Name x p2] [] pos) (eOp1 (gIsi k) f) := by
  have hty : PE X (.Name x p2) (tC (.ty T)) := pe_bltn (v := .ty T) hg2 hm2 hv rfl hn hdb
  refine PE.imp (pe_callB call_isi hg hm PyProof.Rows.boot_isinstance (pa_cons ha (pa_cons hty pa_nil he2) he) (by decide) (by decide) he hpl) fun σ H Q h => ?_
  obtain ⟨B, F, env, S, h⟩ := h
  refine tE_in S .refl h.bnd fun x' e1 v H1 F1 l1 S1 r1 h1 => ?_
  unfold lift1 at h1
  cases q1 : rd e1 x' with
  | none => rw [q1] at h1; exact h1.elim
  | some d =>
    rw [q1] at h1
    have t := S1.tp r1 q1
    have ty := tp_ty S1.fh t
    have go : ∀ b, kitB (tyD d) T = some b → Q (.bl b) H1 → rIsi X.K [v, .ty T] H1 Q := fun b hb hq => ⟨v, .ty T, _, _, b, rfl, .ty T, ty, kit_ty hb, hq⟩
    cases d with
    | none => exact go _ ht.non (h1 _ H1 F1 l1 S1 (.bl _))
    | bool b => exact go _ ht.bl (h1 _ H1 F1 l1 S1 (.bl _))
    | int i => exact go _ ht.int (h1 _ H1 F1 l1 S1 (.bl _))
    | str z => exact go _ ht.str (h1 _ H1 F1 l1 S1 (.bl _))
    | list ds => exact go _ ht.lst (h1 _ H1 F1 l1 S1 (.bl _))
    | tuple ds => exact go _ ht.tup (h1 _ H1 F1 l1 S1 (.bl _))
    | dict ds => exact h1.elim
end
end Pf
namespace Pf
open PySem PySem.Spec PyProof.Rows L2
/-! ### lists of one's own are changed -/
section
variable {K : PySem.W.Frag} {B : Bs} {F : Hp} {env : En} {σ : L2.St} {H : Hp}
theorem SR.ow (S : SR K B F env σ H) {i : Nat} {b : Bool} {ds : List D} (h : env[i]? = some (.ow b ds)) : ∃ a vs, σ[i]? = some (some (.ref a)) ∧ H a = some (.lst vs) ∧ F a = none ∧ B.H0 a = none ∧ DqAll K F vs ds ∧ (b = true → a = B.t) := by
  obtain ⟨v, h1, a, vs, rfl, h2⟩ := S.sl i _ h
  exact ⟨a, vs, h1, h2⟩
end
theorem fzR_in {α : Type} {K : PySem.W.Frag} {B : Bs} {F : Hp} {e : En} {σ : L2.St} {H : Hp} {x : Vd} {v : V} (S : SR K B F e σ H) (r : VR K F σ v x) {k : D → M α} {P : α → En → Prop} {E : Str → En → Prop} {Q : Prop} (h : Rs ((fz x e).bnd k) P E)
    (go : ∀ d e' F', Le F F' → SR K B F' e' σ H → Dq K F' v d → Rs (k d e') P E → Q) : Q := by
  cases q : fz x e with
  | bad => rw [q] at h; exact h.elim
  | exc c e' => exact absurd q (fz_noexc _ _ _ _)
  | ok d e' =>
    rw [q] at h
    obtain ⟨F', l, S', z⟩ := S.fz r q
    exact go d e' F' l S' z h
def eApp (i : Nat) (fe : M Vd) : M Vd := fun env => match env[i]? with
  | some (.ow _ _) => (fe env).bnd fun x e => (fz x e).bnd fun d e => (match e[i]? with
    | some (.ow b ds) => if szL ds.length = true then .ok (.dat .none) (e.set i (.ow b (ds ++ [d]))) else .bad
    | _ => .bad)
  | _ => .bad
def eExt (i : Nat) (fe : M Vd) : M Vd := fun env => match env[i]? with
  | some (.ow _ _) => (fe env).bnd fun x e => (fz x e).bnd fun d e => (match d, e[i]? with
    | .list es, some (.ow b ds) => if szL (ds.length + es.length) = true then .ok (.dat .none) (e.set i (.ow b (ds ++ es))) else .bad
    | _, _ => .bad)
  | _ => .bad
section
variable {X : Cx} {W : WX} {a b c : Expr} {f fi fe : M Vd} {i : Nat} {x : Str} {p pos apos : Pos}
theorem je_append (hN : X.N[i]? = some x) (hv : Vis X.env.scope x) (ha : JE X W a f) (hbase : attributeBase (.Name x p) "append" X.env (eval (.Name x p) X.env) = eval (.Name x p) X.env := by rfl)
    (hfew : ((backTo pos (starEach [a] X.env)).all (fun x => !x.1) && (backToKw pos (keywordEach [] X.env)).all (fun x => x.1.isSome) && decide ([a].length + ([] : List Keyword).length + (if ([] : List Keyword).isEmpty then 0 else 1) < 30)) = true := by rfl)
    (hline : (apos.endLine == pos.line) = true := by rfl) (hs : starEach [a] X.env = (false, eval a X.env) :: starEach [] X.env := by rfl) (hpl : (backTo pos (starEach [] X.env)).any (·.1) = false := by rfl) (hd : (x == ("__debug__" : Str)) = false := by decide) (hcd : (x == ("__classdict__" : Str)) = false := by decide) :
    JE X W (.Call (.Attribute (.Name x p) "append" apos) [a] [] pos) (eApp i f) := by
  refine PE.imp (pe_bm PySem.F.plainAttrs_list PySem.F.slot_list_append PySem.F.type_list_append mt_append (pe_var (i := i) hN hv hd hcd) (pa_cons ha pa_nil hs) hbase hfew hline hs hpl) fun σ H Q h => ?_
  obtain ⟨B, F, env, S, h⟩ := h
  unfold eApp at h
  split at h
  · rename_i b0 ds0 q0
    obtain ⟨ad, vs0, hσ, hH, _⟩ := S.ow q0
    refine ⟨.ref ad, hσ, .inl ⟨rfl, vs0, SqL.of hH⟩, ?_⟩
    refine tE_in S .refl h.bnd fun x1 e1 v H1 F1 l1 S1 r1 h1 => ?_
    refine fzR_in S1 r1 h1 fun d e2 F2 l2 S2 z h2 => ?_
    split at h2
    · rename_i b1 ds1 q1
      obtain ⟨ad', vs1, hσ1, hH1, hF1, _, hq1, _⟩ := S2.ow q1
      rw [hσ] at hσ1
      cases hσ1
      split at h2
      · rename_i hz
        refine ⟨ad, vs1, v, rfl, rfl, hH1, ?_, ?_⟩
        · rw [dqAll_len hq1]; exact Nat.lt_of_le_of_lt (szL_le hz) (by decide)
        · exact h2 .non _ F2 (l1.trans l2) (S2.mut q1 hσ (dqAll_app hq1 (.cons z .nil))) .non
      · exact h2.elim
    · exact h2.elim
  · exact h.elim
theorem je_extend (hN : X.N[i]? = some x) (hv : Vis X.env.scope x) (ha : JE X W a f) (hbase : attributeBase (.Name x p) "extend" X.env (eval (.Name x p) X.env) = eval (.Name x p) X.env := by rfl)
    (hfew : ((backTo pos (starEach [a] X.env)).all (fun x => !x.1) && (backToKw pos (keywordEach [] X.env)).all (fun x => x.1.isSome) && decide ([a].length + ([] : List Keyword).length + (if ([] : List Keyword).isEmpty then 0 else 1) < 30)) = true := by rfl)
    (hline : (apos.endLine == pos.line) = true := by rfl) (hs : starEach [a] X.env = (false, eval a X.env) :: starEach [] X.env := by rfl) (hpl : (backTo pos (starEach [] X.env)).any (·.1) = false := by rfl) (hd : (x == ("__debug__" : Str)) = false := by decide) (hcd : (x == ("__classdict__" : Str)) = false := by decide) :
    JE X W (.Call (.Attribute (.Name x p) "extend" apos) [a] [] pos) (eExt i f) := by
  refine PE.imp (pe_bm PySem.F.plainAttrs_list PySem.F.slot_list_extend PySem.F.type_list_extend mt_extend (pe_var (i := i) hN hv hd hcd) (pa_cons ha pa_nil hs) hbase hfew hline hs hpl) fun σ H Q h => ?_
  obtain ⟨B, F, env, S, h⟩ := h
  unfold eExt at h
  split at h
  · rename_i b0 ds0 q0
    obtain ⟨ad, vs0, hσ, hH, _⟩ := S.ow q0
    refine ⟨.ref ad, hσ, .inl ⟨rfl, vs0, SqL.of hH⟩, ?_⟩
    refine tE_in S .refl h.bnd fun x1 e1 v H1 F1 l1 S1 r1 h1 => ?_
    refine fzR_in S1 r1 h1 fun d e2 F2 l2 S2 z h2 => ?_
    split at h2
    · rename_i es b1 ds1 q1
      obtain ⟨ad', vs1, hσ1, hH1, hF1, _, hq1, _⟩ := S2.ow q1
      rw [hσ] at hσ1
      cases hσ1
      cases z with
      | @lst ab ws _ hz1 hz2 =>
        split at h2
        · rename_i hz
          refine ⟨ad, ab, vs1, ws, rfl, rfl, hH1, S2.fh ab _ hz1, ?_, ?_⟩
          · rw [dqAll_len hq1, dqAll_len hz2]; exact szL_line hz
          · exact h2 .non _ F2 (l1.trans l2) (S2.mut q1 hσ (dqAll_app hq1 hz2)) .non
        · exact h2.elim
    · exact h2.elim
  · exact h.elim
/-! x[i] = e -/
def putAt (i : Nat) (y : Option D) (d : D) (e : En) : O := match y, e[i]? with
  | some (.int k), some (.ow b ds) => (match ixN ds.length k with
    | some j => .nx (e.set i (.ow b (ds.set j d)))
    | none => .bad)
  | _, _ => .bad
def sItem (i : Nat) (fi fe : M Vd) : En → O := fun env => (fe env).o fun x e => (fz x e).o fun d e => match e[i]? with
  | some (.ow _ _) => (fi e).o fun y e => putAt i (rd e y) d e
  | _ => .bad
theorem put_in {K : PySem.W.Frag} {B : Bs} {F F0 : Hp} {e : En} {σ : L2.St} {H : Hp} {y : Vd} {ad : Addr} {v w : V} {d : D} {D' : Ends} (S : SR K B F e σ H) (l : Le F0 F) (hσ : σ[i]? = some (some (.ref ad))) (r : VR K F σ v y) (z : Dq K F w d)
    (h : Os (putAt i (rd e y) d e) (nS K B F0 D'.nx) (rS K B F0 D'.rt) (xS W K B F0) (nS K B F0 D'.bk) (nS K B F0 D'.ct)) : rSetL (.ref ad) v w H fun H' => D'.nx σ H' := by
  unfold putAt at h
  split at h
  · rename_i k b1 ds1 q1 q2
    obtain ⟨ad', vs1, hσ1, hH1, hF1, _, hq1, _⟩ := S.ow q2
    rw [hσ] at hσ1
    cases hσ1
    have t := S.tp r q1
    cases t
    split at h
    · rename_i j q3
      exact ⟨ad, vs1, k, j, rfl, rfl, hH1, by rw [dqAll_len hq1]; exact q3, h σ _ F l (S.mut q2 hσ (dqAll_set z j hq1))⟩
    · exact h.elim
  · exact h.elim
theorem js_item {tp : Pos} (hN : X.N[i]? = some x) (hv : Vis X.env.scope x) (he : JE X W a fe) (hi : JE X W b fi)
    (hs : swapsWithSole [.Subscript (.Name x p) b tp] a pos.line X.env = pure false := by rfl) (hw : swappedStores [.Subscript (.Name x p) b tp] a X.env = pure none := by rfl) (h1 : (assignEach [.Subscript (.Name x p) b tp] X.env).map (·.2) = [assign (.Subscript (.Name x p) b tp) X.env] := by rfl)
    (hsub : ∀ v, assign (.Subscript (.Name x p) b tp) X.env v = (do
      let ov ← holding [v] (eval (.Name x p) X.env)
      let iv ← holding [v, ov] (eval b X.env)
      standAt tp
      holding [v, ov, iv] (setItem ov iv v)
      release [v, ov, iv] []) := by intro _; rfl) (hd : (x == ("__debug__" : Str)) = false := by decide) (hcd : (x == ("__classdict__" : Str)) = false := by decide) :
    JS X W (.Assign [.Subscript (.Name x p) b tp] a pos) (sItem i fi fe) := by
  refine PS.imp (ps_asg he (pg_sub (pe_var (i := i) hN hv hd hcd) hi set_list hsub) hs hw h1) fun D σ H h => ?_
  obtain ⟨B, F, env, S, h⟩ := h
  refine tE_in S .refl h.r fun x1 e1 v H1 F1 l1 S1 r1 h1 => ?_
  refine fz_in S1 r1 h1 fun d e2 F2 l2 S2 z h2 => ?_
  split at h2
  · rename_i b0 ds0 q0
    obtain ⟨ad, vs0, hσ, _⟩ := S2.ow q0
    refine ⟨.ref ad, hσ, ?_⟩
    refine tE_in S2 (l1.trans l2) h2.r fun y e4 v4 H4 F4 l4 S4 r4 h4 => ?_
    exact put_in S4 ((l1.trans l2).trans l4) hσ r4 (l4.dq z) h4
  · exact h2.elim
/-! x[i] += e -/
theorem get_list : PGet X (fun o i H Q => ∃ p xs k v, o = .ref p ∧ i = .int k ∧ H p = some (.lst xs) ∧ 0 ≤ k ∧ xs[k.toNat]? = some v ∧ Q v H) := by
  intro pins s σ H o i ov iv Q I ro ri h
  obtain ⟨p, xs, k, v, rfl, rfl, hp, h0, hx, q⟩ := h
  cases ro
  obtain ⟨t, rfl⟩ := ri
  obtain ⟨its, r, pl, hz⟩ := I.list (SqL.of hp)
  obtain ⟨u, hu, ru⟩ := r.get hx
  have hlt : k.toNat < xs.length := (List.getElem?_eq_some_iff.mp hx).1
  have hn := line63
  exact wpAny_getItem_list pl.isList h0 (by omega) (by simpa using hu) ⟨v, H, I, ru, q⟩
def oldAt (i : Nat) (y : Option D) (e : En) : Option (Int × D) := match y, e[i]? with
  | some (.int k), some (.ow _ ds) => if 0 ≤ k then (ds[k.toNat]?).map fun d => (k, d) else none
  | _, _ => none
def sItemAug (i : Nat) (g : Int → Int → Int) (fi fe : M Vd) : En → O := fun env => match env[i]? with
  | some (.ow _ _) => (fi env).o fun y e => (match oldAt i (rd e y) e with
    | some (k, .int m) => (fe e).o fun x e => (match rd e x with
      | some (.int n) => putAt i (some (.int k)) (.int (g m n)) e
      | _ => .bad)
    | _ => .bad)
  | _ => .bad
theorem js_itemAug {op : Operator} {g : Int → Int → Int} {tp : Pos} (hop : PIp X op (ipI g)) (hN : X.N[i]? = some x) (hv : Vis X.env.scope x) (hi : JE X W b fi) (he : JE X W a fe)
    (hst : ∀ ov iv new, augStore b ov iv new = (do holding [new, ov, iv] (setItem ov iv new); release [new, ov, iv] []; pure .next) := by intros; rfl) (hd : (x == ("__debug__" : Str)) = false := by decide) (hcd : (x == ("__classdict__" : Str)) = false := by decide) :
    JS X W (.AugAssign (.Subscript (.Name x p) b tp) op a pos) (sItemAug i g fi fe) := by
  refine PS.imp (ps_augS (pe_var (i := i) hN hv hd hcd) hi get_list he hop set_list hst) fun D σ H h => ?_
  obtain ⟨B, F, env, S, h⟩ := h
  unfold sItemAug at h
  split at h
  · rename_i b0 ds0 q0
    obtain ⟨ad, vs0, hσ, _⟩ := S.ow q0
    refine ⟨.ref ad, hσ, ?_⟩
    refine tE_in S .refl h.r fun y e1 v1 H1 F1 l1 S1 r1 h1 => ?_
    split at h1
    · rename_i k m q1
      unfold oldAt at q1
      split at q1
      · rename_i k' b1 ds1 q2 q3
        split at q1
        · rename_i hk0
          obtain ⟨ad', vs1, hσ1, hH1, _, _, hq1, _⟩ := S1.ow q3
          rw [hσ] at hσ1
          cases hσ1
          have t := S1.tp r1 q2
          cases t
          cases q4 : ds1[k'.toNat]? with
          | none => rw [q4] at q1; cases q1
          | some d0 =>
            rw [q4] at q1
            cases q1
            obtain ⟨w, hw1, hw2⟩ := dqAll_get hq1 q4
            cases hw2
            refine ⟨ad, vs1, k, .int m, rfl, rfl, hH1, hk0, hw1, ?_⟩
            refine tE_in S1 l1 h1.r fun x2 e2 v2 H2 F2 l2 S2 r2 h2 => ?_
            split at h2
            · rename_i n q5
              have t2 := S2.tp r2 q5
              cases t2
              refine ⟨m, n, rfl, rfl, ?_⟩
              exact put_in (y := .dat (.int k)) S2 (l1.trans l2) hσ (Dq.int k) (.int _) h2
            · exact h2.elim
        · cases q1
      · cases q1
    · exact h1.elim
  · exact h.elim
/-! x *= e -/
def gMulI : D → D → Option D
  | .int i, .int j => if (inR i || inR j) = true then some (.int (i * j)) else none
  | _, _ => none
theorem d_mulI {K : PySem.W.Frag} : RD2 K (rI CMul fun i j => .int (i * j)) gMulI := d_ints fun a b d e => by
  cases a <;> cases b <;> try cases e
  unfold gMulI at e
  simp only at e
  split at e
  · rename_i z
    cases e
    rw [Bool.or_eq_true] at z
    exact ⟨_, _, rfl, rfl, z.elim (fun z => .inl (inR_ok z)) (fun z => .inr (inR_ok z)), fun _ => .int _⟩
  · cases e
theorem js_aug {op : Operator} {r : R2} {g : D → D → Option D} (hop : OpR X (inplaceOp op) r) (hr : RD2 X.K r g) (hN : X.N.Nodup) (hi : X.N[i]? = some x) (hx : Loc X.env.scope x) (he : JE X W a fe) (hf : X.fn x = true ∨ X.env.scope.names.lookup x = some .local := by first | exact .inl rfl | exact .inr rfl | assumption) :
    JS X W (.AugAssign (.Name x p) op a pos) (sSet i (eOp2 g (eVar i) fe)) := by
  refine PS.imp (ps_aug hN hi hx he hop hf) fun D σ H h => ?_
  obtain ⟨B, F, env, S, h⟩ := h
  have h1 := (Os.r (σ := σ) h).bnd
  have slot : ∀ {e}, eVar i env = R.ok (.sl i) e → ∃ v, σ[i]? = some (some v) ∧ e = env := fun {e} q => by
    unfold eVar at q
    split at q
    · cases q
    · cases q
    · rename_i s n1 q1
      cases q
      obtain ⟨v, g1, g2⟩ := S.sl i _ q1
      cases s with
      | no => exact (n1 rfl).elim
      | va d => obtain ⟨y, rfl, _⟩ := g2; exact ⟨y, g1, rfl⟩
      | ow b ds => obtain ⟨y, _, rfl, _⟩ := g2; exact ⟨_, g1, rfl⟩
      | sc ns => obtain ⟨y, rfl, _⟩ := g2; exact ⟨_, g1, rfl⟩
      | ob _ _ => obtain ⟨y, rfl, _⟩ := g2; exact ⟨_, g1, rfl⟩
  cases q : eVar i env with
  | bad => rw [q] at h1; exact h1.elim
  | exc c e => unfold eVar at q; split at q <;> cases q
  | ok vd e =>
    have evd : vd = .sl i := by unfold eVar at q; split at q <;> cases q; rfl
    subst evd
    obtain ⟨v, hσ, rfl⟩ := slot q
    rw [q] at h1
    refine ⟨v, hσ, ?_⟩
    have h2 : Rs ((fe e).bnd fun y e2 => lift2 g (rd e2 (.sl i)) (rd e2 y) e2) _ _ := h1
    refine tE_in S .refl h2.bnd fun y e2 u H2 F2 l2 S2 r2 h3 => ?_
    refine lift2_in hr S2 (show VR X.K F2 σ v (.sl i) from hσ) r2 h3 fun d v' H' F' l' S' z h4 => ?_
    exact h4 _ H' F' (l2.trans l') (S'.setVa i z)
/-! a, b = e1, e2 and a, b, c = .. -/
def sPar (is : List Nat) (fa : M (List Vd)) : En → O := fun env => (fa env).o fun xs e => (fzAll xs e).o fun ds e => match setAll is ds e with
  | some e => .nx e
  | none => .bad
theorem fzAllO_in {K : PySem.W.Frag} {B : Bs} {F : Hp} {e : En} {σ : L2.St} {H : Hp} {xs : List Vd} {vs : List V} (S : SR K B F e σ H) (r : VRs K F σ vs xs) {k : List D → En → O} {N : En → Prop} {T : D → En → Prop} {E : Str → En → Prop} {Bk Ct : En → Prop} {Q : Prop} (h : Os ((fzAll xs e).o k) N T E Bk Ct)
    (go : ∀ ds e' F', Le F F' → SR K B F' e' σ H → DqAll K F' vs ds → Os (k ds e') N T E Bk Ct → Q) : Q := by
  cases q : fzAll xs e with
  | bad => rw [q] at h; exact h.elim
  | exc c e' => exact absurd q (fzAll_noexc _ _ _ _)
  | ok d e' =>
    rw [q] at h
    obtain ⟨F', l, S', z⟩ := SR.fzAll S r q
    exact go d e' F' l S' z h
theorem js_par {j : Nat} {y : Str} {fa : M (List Vd)} {px py pt : Pos} {kt k2 pt2} (hc : X.calm = true) (hN : X.N.Nodup) (hi : X.N[i]? = some x) (hj : X.N[j]? = some y) (hij : i ≠ j)
    (hx : X.env.scope.names.lookup x = some .local) (hy : X.env.scope.names.lookup y = some .local) (ha : JA X W [a, b] fa)
    (hw : swappedStores [.Tuple [.Name x px, .Name y py] kt pt] (.Tuple [a, b] k2 pt2) X.env = pure (some [x, y])) (hs : swapsWithSole [.Tuple [.Name x px, .Name y py] kt pt] (.Tuple [a, b] k2 pt2) pos.line X.env = pure false := by rfl) :
    JS X W (.Assign [.Tuple [.Name x px, .Name y py] kt pt] (.Tuple [a, b] k2 pt2) pos) (sPar [i, j] fa) := by
  refine PS.imp (ps_par hc hN hi hj hij hx hy ha hw hs) fun D σ H h => ?_
  obtain ⟨B, F, env, S, h⟩ := h
  refine tA_in S .refl h.r fun xs e1 vs H1 F1 l1 S1 r1 h1 => ?_
  refine fzAllO_in S1 r1 h1 fun ds e2 F2 l2 S2 z h2 => ?_
  split at h2
  · rename_i e3 q
    cases z with
    | nil => cases q
    | @cons v1 vs1 d1 ds1 z1 z =>
      cases z with
      | nil => cases q
      | @cons v2 vs2 d2 ds2 z2 z =>
        cases z with
        | cons _ _ => cases q
        | nil =>
          cases q
          exact ⟨v1, v2, rfl, h2 _ H1 F2 (l1.trans l2) ((S2.setVa i z1).setVa j z2)⟩
  · exact h2.elim
end
end Pf
namespace Pf
open PySem PySem.Spec PyProof.Rows L2
/-! ### a, b, c = e1, e2, e3 -/
theorem vals3 {x y z : V} : ∀ {us : List Value}, Vals [x, y, z] us → ∃ a b c, us = [a, b, c] ∧ RelV x a ∧ RelV y b ∧ RelV z c
  | _, .cons p (.cons q (.cons r .nil)) => ⟨_, _, _, rfl, p, q, r⟩
section
variable {X : Cx} {W : WX} {a b c : Expr} {i j k : Nat} {x y z : Str} {pos : Pos} {fa : M (List Vd)}
theorem ps_par3 {ta : TA} {px py pz pt : Pos} {kt k2 pt2} (hc : X.calm = true) (hN : X.N.Nodup) (hi : X.N[i]? = some x) (hj : X.N[j]? = some y) (hk : X.N[k]? = some z) (hij : i ≠ j) (hik : i ≠ k) (hjk : j ≠ k)
    (hx : X.env.scope.names.lookup x = some .local) (hy : X.env.scope.names.lookup y = some .local) (hz : X.env.scope.names.lookup z = some .local) (ha : PA X [a, b, c] ta)
    (hw : swappedStores [.Tuple [.Name x px, .Name y py, .Name z pz] kt pt] (.Tuple [a, b, c] k2 pt2) X.env = pure (some [x, y, z]))
    (hs : swapsWithSole [.Tuple [.Name x px, .Name y py, .Name z pz] kt pt] (.Tuple [a, b, c] k2 pt2) pos.line X.env = pure false := by rfl) :
    PS X (.Assign [.Tuple [.Name x px, .Name y py, .Name z pz] kt pt] (.Tuple [a, b, c] k2 pt2) pos) (fun D σ H => ta σ H fun vs H1 => ∃ v w u, vs = [v, w, u] ∧ D.nx (((σ.set i (some v)).set j (some w)).set k (some u)) H1) := by
  refine ⟨fun pins s σ H D I h => ?_⟩
  rw [exec_Assign_arm]
  refine wpAny_bind (wpAny_standAt ?_)
  rw [hs]
  refine wpAny_bind (wpAny_pure ?_)
  rw [if_neg (by decide)]
  refine wpAny_bind (Tuple_ (thn (ha.run _ pins s σ H _ I h) fun us s1 ⟨vs, H1, I1, r1, v, w, u, e1, q1⟩ => ?_))
  subst e1
  obtain ⟨u1, u2, u3, rfl, rv, rw', ru⟩ := vals3 r1
  refine wpAny_newObj_type ?_ (by show 3 ≤ sizeLine; decide)
  have I2 : Inv X pins σ H1 { s1 with heap := s1.heap.push { cls := .type "tuple", data := .seq [u1, u2, u3].toArray } } := I1.kept (t' := s1.toks) fun b o e => Heap.get?_push_of_some _ e
  rw [hw]
  refine wpAny_bind (wpAny_pure ?_)
  show wpAny (model X.prog X.w) X.A (do rule "assign.swapped-stores"; let items ← unpackItems (.ref s1.heap.objs.size) 3 none; assignInOrder [fun v => bindName X.env z v, fun v => bindName X.env y v, fun v => bindName X.env x v] items.reverse; pure Flow.next) _ _ _
  refine wpAny_bind (wpAny_rule (wpAny_bind (unpackItems_tuple (items := #[u1, u2, u3]) (I.ok.hd hc) (IsTup.new s1.heap _) fun h' hx' => ?_)))
  have I3 := I2.kept (h' := h') (t' := s1.toks) fun b o e => hx' b o (Nat.ne_of_lt (Heap.lt_size e)) e
  show wpAny _ _ (assignInOrder [fun v => bindName X.env z v, fun v => bindName X.env y v, fun v => bindName X.env x v] [u3, u2, u1] >>= fun _ => pure Flow.next) _ _ _
  refine wpAny_bind (assignInOrder_cons (wpAny_bindName (store_ok I3 hN hk (.inl hz) ru (fun s2 I4 => ?_) (.inr hz))))
  refine assignInOrder_cons (wpAny_bindName (store_ok I4 hN hj (.inl hy) rw' (fun s3 I5 => ?_) (.inr hy)))
  refine assignInOrder_cons (wpAny_bindName (store_ok I5 hN hi (.inl hx) rv (fun s4 I6 => assignInOrder_nil (wpAny_pure ?_)) (.inr hx)))
  have e : ((σ.set k (some u)).set j (some w)).set i (some v) = ((σ.set i (some v)).set j (some w)).set k (some u) := by
    rw [List.set_comm _ _ (Ne.symm hjk), List.set_comm _ _ (Ne.symm hik), List.set_comm _ _ (Ne.symm hij)]
  rw [e] at I6
  exact ⟨_, H1, I6, q1⟩
theorem js_par3 {px py pz pt : Pos} {kt k2 pt2} (hc : X.calm = true) (hN : X.N.Nodup) (hi : X.N[i]? = some x) (hj : X.N[j]? = some y) (hk : X.N[k]? = some z) (hij : i ≠ j) (hik : i ≠ k) (hjk : j ≠ k)
    (hx : X.env.scope.names.lookup x = some .local) (hy : X.env.scope.names.lookup y = some .local) (hz : X.env.scope.names.lookup z = some .local) (ha : JA X W [a, b, c] fa)
    (hw : swappedStores [.Tuple [.Name x px, .Name y py, .Name z pz] kt pt] (.Tuple [a, b, c] k2 pt2) X.env = pure (some [x, y, z]))
    (hs : swapsWithSole [.Tuple [.Name x px, .Name y py, .Name z pz] kt pt] (.Tuple [a, b, c] k2 pt2) pos.line X.env = pure false := by rfl) :
    JS X W (.Assign [.Tuple [.Name x px, .Name y py, .Name z pz] kt pt] (.Tuple [a, b, c] k2 pt2) pos) (sPar [i, j, k] fa) := by
  refine PS.imp (ps_par3 hc hN hi hj hk hij hik hjk hx hy hz ha hw hs) fun D σ H h => ?_
  obtain ⟨B, F, env, S, h⟩ := h
  refine tA_in S .refl h.r fun xs e1 vs H1 F1 l1 S1 r1 h1 => ?_
  refine fzAllO_in S1 r1 h1 fun ds e2 F2 l2 S2 zz h2 => ?_
  split at h2
  · rename_i e3 q
    cases zz with
    | nil => cases q
    | @cons v1 vs1 d1 ds1 z1 zz =>
      cases zz with
      | nil => cases q
      | @cons v2 vs2 d2 ds2 z2 zz =>
        cases zz with
        | nil => cases q
        | @cons v3 vs3 d3 ds3 z3 zz =>
          cases zz with
          | cons _ _ => cases q
          | nil =>
            cases q
            exact ⟨v1, v2, v3, rfl, h2 _ H1 F2 (l1.trans l2) (((S2.setVa i z1).setVa j z2).setVa k z3)⟩
  · exact h2.elim
/-- a, b = [..], e: the first a list of one's own -/
def sParN (i j : Nat) (f1 : M (List D)) (f2 : M Vd) : En → O := fun env => (f1 env).o fun ds e => (f2 e).o fun x e => (fz x e).o fun d e => .nx ((e.set i (.ow false ds)).set j (.va d))
theorem js_parN {f1 : M (List D)} {f2 : M Vd} {px py pt : Pos} {kt k2 pt2} (hc : X.calm = true) (hN : X.N.Nodup) (hi : X.N[i]? = some x) (hj : X.N[j]? = some y) (hij : i ≠ j)
    (hx : X.env.scope.names.lookup x = some .local) (hy : X.env.scope.names.lookup y = some .local) (h1 : JN X W a f1) (h2 : JE X W b f2)
    (hw : swappedStores [.Tuple [.Name x px, .Name y py] kt pt] (.Tuple [a, b] k2 pt2) X.env = pure (some [x, y])) (hs : swapsWithSole [.Tuple [.Name x px, .Name y py] kt pt] (.Tuple [a, b] k2 pt2) pos.line X.env = pure false := by rfl)
    (s1 : starEach [a, b] X.env = (false, eval a X.env) :: starEach [b] X.env := by rfl) (s2 : starEach [b] X.env = (false, eval b X.env) :: starEach [] X.env := by rfl) :
    JS X W (.Assign [.Tuple [.Name x px, .Name y py] kt pt] (.Tuple [a, b] k2 pt2) pos) (sParN i j f1 f2) := by
  refine PS.imp (ps_par hc hN hi hj hij hx hy (pa_cons h1 (pa_cons h2 pa_nil s2) s1) hw hs) fun D σ H h => ?_
  obtain ⟨B, F, env, S, h⟩ := h
  show tN X.K W f1 σ H fun x H1 => tE X.K W f2 σ H1 fun y H2 => ∃ v w, [x, y] = [v, w] ∧ D.nx ((σ.set i (some v)).set j (some w)) H2
  refine tN_in S .refl h.r fun ds e1 p H1 F1 l1 S1 fr h1 => ?_
  obtain ⟨vs, g1, g2⟩ := fr.at_
  have nF0 : B.F0 p = none := S1.f0.none fr.nF
  have S1' := S1.addH g1 fr.nF fr.ns
  -- the second, while the new list is told to stay
  have h1' : Rs (f2 e1) (fun x e => Os ((fz x e).o fun d e => .nx ((e.set i (.ow false ds)).set j (.va d))) (nS X.K B F D.nx) (rS X.K B F D.rt) (xS W X.K B F) (nS X.K B F D.bk) (nS X.K B F D.ct)) (xW W X.K { B with H0 := upd B.H0 p (.lst vs) } F1 σ) := by
    cases q : f2 e1 with
    | ok x e => rw [q] at h1; exact h1
    | bad => rw [q] at h1; exact h1
    | exc cc e =>
      rw [q] at h1
      intro H' F' l' S'
      exact h1 σ H' F' (l1.trans l') (S'.delH fr.nH nF0).1
  refine tE_in S1' .refl h1' fun x2 e2 v H2 F2 l2 S2 r2 h2 => ?_
  refine fz_in S2 r2 h2 fun d e3 F3 l3 S3 zz h3 => ?_
  obtain ⟨S4, hp, nF, ns⟩ := S3.delH fr.nH nF0
  have S5 := (S4.setOw i hp nF fr.nH ((l2.trans l3).dqAll g2) ns).setVa j zz
  exact ⟨.ref p, v, rfl, h3 _ H2 F3 ((l1.trans l2).trans l3) S5⟩
end
/-! ### raise -/
def sRaise (c : Str) : En → O := fun e => .ex c e
theorem js_raise {X : Cx} {W : WX} {x m : Str} {jj : Nat} {p p2 pos pos2 : Pos} {bmB : List Value} {Bn newId initId : String} (hc : X.calm = true) (tk : L2N.Takes X W) (Fb : ExcBaseFacts Bn newId initId bmB) (q : PySem.W.excIn X.K (He.ga X.K x) bmB newId = true) (gC : X.mg x = some (.ref (He.ga X.K x))) (kC : PySem.W.keepIn X.K (.ref (He.ga X.K x)) = true)
    (r : Raises X (.ref (He.ga X.K x))) (hg : Gl X x) (hdb : (x == ("__debug__" : Str)) = false := by decide) : JS X W (.Raise (some (.Call (.Name x p) [.Constant (.str m) jj p2] [] pos)) none pos2) (sRaise x) := by
  refine PS.imp (L2N.ps_raise hc tk (L2N.pmk_own Fb q gC kC r hg hdb)) fun D σ H h => ?_
  obtain ⟨B, F, env, S, h⟩ := h
  exact h σ H F .refl S
/-! ### defs that take the script, and the list that counts the draws -/
def spS (K : PySem.W.Frag) (n : Nat) (m : List Int → List D → Rf) : Sp := fun vs H Q E => vs.length = n ∧ ∃ F a rest ns ds, vs = .ref a :: rest ∧ Le F H ∧ Script K F a ns ∧ DqAll K F rest ds ∧ match m ns ds with
  | .ok d => ∀ v H' F', Le H H' → Le F F' → Le F' H' → (∀ b o, F' b = some o → F b = some o ∨ H b = none) → Dq K F' v d → Q v H'
  | .exc c => ∀ H', Le H H' → E (.ref (He.ga K c)) none H'
  | .bad => False
def enS (n : Nat) (ns : List Int) (ds : List D) : En := .sc ns :: enOf (n - 1) ds
def runS (n : Nat) (g : En → O) (ns : List Int) (ds : List D) : Rf := (g (enS n ns ds)).f
inductive RfD where
  | ok (d : D) (ts : List D)
  | bad
def spD (K : PySem.W.Frag) (n : Nat) (m : List Int → List D → List D → RfD) : Sp := fun vs H Q E => vs.length = n ∧ ∃ F a t rest ns ws ts ds, vs = .ref a :: .ref t :: rest ∧ Le F H ∧ Script K F a ns ∧ H t = some (.lst ws) ∧ F t = none ∧ DqAll K F ws ts ∧ DqAll K F rest ds ∧ match m ns ts ds with
  | .ok d ts' => ∀ v H' F' ws', (∀ b o, b ≠ t → H b = some o → H' b = some o) → Le F F' → Le F' H' → (∀ b o, F' b = some o → F b = some o ∨ H b = none) → H' t = some (.lst ws') → DqAll K F' ws' ts' → Dq K F' v d → Q v H'
  | .bad => False
def enT (n : Nat) (ns : List Int) (ts ds : List D) : En := .sc ns :: .ow true ts :: enOf (n - 2) ds
def townOf (e : En) : Option (List D) := match e[1]? with
  | some (Sl.ow true ts) => some ts
  | _ => none
def O.t (o : O) : RfD := match o with
  | .rt d e => (match townOf e with
    | some ts => RfD.ok d ts
    | _ => RfD.bad)
  | .nx e => (match townOf e with
    | some ts => RfD.ok .none ts
    | _ => RfD.bad)
  | _ => .bad
def runD (n : Nat) (g : En → O) (ns : List Int) (ts ds : List D) : RfD := (g (enT n ns ts ds)).t
theorem enOf_sl {n i : Nat} {ds : List D} {s : Sl} (h : (enOf n ds)[i]? = some s) : (∃ d, ds[i]? = some d ∧ s = .va d) ∨ (s = .no ∧ ds.length ≤ i ∧ i - ds.length < n - ds.length) := by
  unfold enOf at h
  by_cases hi : i < ds.length
  · rw [List.getElem?_append_left (by simpa using hi), List.getElem?_map] at h
    obtain ⟨d, hd⟩ := some_of hi
    rw [hd] at h
    cases h
    exact .inl ⟨d, hd, rfl⟩
  · rw [List.getElem?_append_right (by simpa using hi), List.getElem?_replicate] at h
    split at h
    · rename_i z
      cases h
      exact .inr ⟨rfl, Nat.le_of_not_lt hi, by simpa using z⟩
    · cases h
theorem enOf_own {n i : Nat} {ds es : List D} {b : Bool} (h : (enOf n ds)[i]? = some (.ow b es)) : False := by
  rcases enOf_sl h with ⟨d, _, z⟩ | ⟨z, _⟩ <;> cases z
theorem enOf_foot {n i : Nat} {ds : List D} {s : Sl} {H : Hp} {v : Option V} {x : Addr} (h : (enOf n ds)[i]? = some s) (f : Foot H s v x) : False := by
  rcases enOf_sl h with ⟨d, _, rfl⟩ | ⟨rfl, _⟩ <;> exact f
theorem start_no {N : List Str} {vs : List V} {i : Nat} (h1 : vs.length ≤ i) (h2 : i < N.length) : (start N vs)[i]? = some none := by
  unfold L2.start
  rw [List.getElem?_append_right (by simpa using h1), List.getElem?_replicate, if_pos (by simp; omega)]
theorem start_va {N : List Str} {vs : List V} {i : Nat} {v : V} (h : vs[i]? = some v) : (start N vs)[i]? = some (some v) := by
  unfold L2.start
  have hl := (List.getElem?_eq_some_iff.mp h).1
  rw [List.getElem?_append_left (by simpa using hl), List.getElem?_map, h]
  rfl
theorem start_len {N : List Str} {vs : List V} (h : vs.length ≤ N.length) : (start N vs).length = N.length := by
  unfold L2.start
  simp; omega
theorem enOf_len {n : Nat} {ds : List D} (h : ds.length ≤ n) : (enOf n ds).length = n := by
  unfold enOf
  simp; omega
theorem st_startS {K : PySem.W.Frag} {F H : Hp} {t u a : Addr} (N : List Str) {ns : List Int} {vs : List V} {ds : List D} (hn : vs.length + 1 ≤ N.length) (l : Le F H) (hs : Script K F a ns) (q : DqAll K F vs ds) : SR K ⟨H, F, t, u⟩ F (enS N.length ns ds) (start N (.ref a :: vs)) H := by
  have hl := dqAll_len q
  refine ⟨?_, .refl, .refl, l, fun b o e => .inl e, fun i s h => ?_, fun i j s s' v w x ne h1 h2 h3 h4 fo fo' => ?_⟩
  · unfold enS
    rw [start_len (by simpa using hn), List.length_cons, enOf_len (by omega)]
    omega
  · cases i with
    | zero =>
      cases h
      exact ⟨_, start_va rfl, a, rfl, hs⟩
    | succ i =>
      have h : (enOf (N.length - 1) ds)[i]? = some s := h
      rcases enOf_sl h with ⟨d, hd, rfl⟩ | ⟨rfl, z1, z2⟩
      · obtain ⟨v, e1, e2⟩ := dqAll_get q hd
        exact ⟨some v, start_va (by simpa using e1), v, rfl, e2⟩
      · exact ⟨none, start_no (by simp; omega) (by omega), trivial⟩
  · cases i with
    | zero => cases h1; exact fo.elim
    | succ i => exact enOf_foot (show (enOf (N.length - 1) ds)[i]? = some s from h1) fo
theorem fn_script {P : Program} {w : World} {K : PySem.W.Frag} {mg : Str → Option Value} {base : Heap} {x qual : Str} {params : Arguments} {body : List Stmt} {scope : Scope} {f : Addr} {fd : FuncData} {N ps : List Str} {k : Nat} {g : En → O} (F : FunD K x qual params body scope [] [] f fd) (S : FnScope N ps scope) (hps : ps.length ≤ N.length)
    (hb : ∀ (cdv : Value) (A : Around) (outer : List Env) (s : Shared) (H : Hp) (E : XK), Room k (A.deeper (envOfC qual scope s.heap.objs.size f cdv)) → JB (cxOf (L2N.CX P w) P w K mg base N qual scope f cdv A outer s H E) (WD E) body g) :
    FnOk P w K mg base (L2N.CX P w) (k + 1) f fd ps (spS K ps.length (runS N.length g)) := by
  refine F.ok S (fun vs H Q E h => h.1) fun cdv A outer s H vs Q E hr h => ⟨_, hb cdv A outer s H E hr, ?_⟩
  obtain ⟨hl, F0, a, rest, ns, ds, rfl, l, hs, q, h⟩ := h
  have S0 : SR K ⟨H, F0, 0, 0⟩ F0 (enS N.length ns ds) (start N (.ref a :: rest)) H := st_startS N (by simp only [List.length_cons] at hl; omega) l hs q
  refine ⟨⟨H, F0, 0, 0⟩, F0, enS N.length ns ds, S0, ?_⟩
  unfold runS at h
  cases q : g (enS N.length ns ds) with
  | nx e =>
    rw [q] at h
    intro σ' H' F' l' S'
    exact h .non H' F' S'.same l' S'.fh S'.new .non
  | rt d e =>
    rw [q] at h
    intro v σ' H' F' l' S' z
    exact h v H' F' S'.same l' S'.fh S'.new z
  | ex c e =>
    rw [q] at h
    intro σ' H' F' l' S'
    exact h H' S'.same
  | bk e => rw [q] at h; exact h.elim
  | ct e => rw [q] at h; exact h.elim
  | bad => rw [q] at h; exact h.elim
/-- without the lent list -/
def cutH (H : Hp) (t : Addr) : Hp := fun b => if b = t then none else H b
theorem cutH_le {H : Hp} {t : Addr} : Le (cutH H t) H := fun b o e => by
  unfold cutH at e
  split at e
  · cases e
  · exact e
theorem cutH_ne {H : Hp} {t b : Addr} (h : b ≠ t) : cutH H t b = H b := by unfold cutH; rw [if_neg h]
theorem cutH_at {H : Hp} {t : Addr} : cutH H t t = none := by unfold cutH; rw [if_pos rfl]
theorem st_startD {K : PySem.W.Frag} {F H : Hp} {t u a : Addr} (N : List Str) {ns : List Int} {vs ws : List V} {ds ts : List D} (hn : vs.length + 2 ≤ N.length) (l : Le F H) (hs : Script K F a ns) (ht : H t = some (.lst ws)) (nF : F t = none) (qt : DqAll K F ws ts) (q : DqAll K F vs ds) :
    SR K ⟨cutH H t, F, t, u⟩ F (enT N.length ns ts ds) (start N (.ref a :: .ref t :: vs)) H := by
  have hl := dqAll_len q
  refine ⟨?_, cutH_le, .refl, l, fun b o e => .inl e, fun i s h => ?_, fun i j s s' v w x ne h1 h2 h3 h4 fo fo' => ?_⟩
  · unfold enT
    rw [start_len (by simpa using hn), List.length_cons, List.length_cons, enOf_len (by omega)]
    omega
  · match i with
    | 0 =>
      cases h
      exact ⟨_, start_va rfl, a, rfl, hs⟩
    | 1 =>
      cases h
      exact ⟨_, start_va rfl, t, ws, rfl, ht, nF, cutH_at, qt, fun _ => rfl⟩
    | i + 2 =>
      have h : (enOf (N.length - 2) ds)[i]? = some s := h
      rcases enOf_sl h with ⟨d, hd, rfl⟩ | ⟨rfl, z1, z2⟩
      · obtain ⟨v, e1, e2⟩ := dqAll_get q hd
        exact ⟨some v, start_va (by simpa using e1), v, rfl, e2⟩
      · exact ⟨none, start_no (by simp; omega) (by omega), trivial⟩
  · match i, j with
    | 0, _ => cases h1; exact fo.elim
    | i + 2, _ => exact enOf_foot (show (enOf (N.length - 2) ds)[i]? = some s from h1) fo
    | 1, 0 => cases h2; exact fo'.elim
    | 1, 1 => exact absurd rfl ne
    | 1, j + 2 => exact enOf_foot (show (enOf (N.length - 2) ds)[j]? = some s' from h2) fo'
theorem fn_draw {P : Program} {w : World} {K : PySem.W.Frag} {mg : Str → Option Value} {base : Heap} {x qual : Str} {params : Arguments} {body : List Stmt} {scope : Scope} {f : Addr} {fd : FuncData} {N ps : List Str} {k : Nat} {g : En → O} (F : FunD K x qual params body scope [] [] f fd) (S : FnScope N ps scope) (hps : ps.length ≤ N.length)
    (hb : ∀ (cdv : Value) (A : Around) (outer : List Env) (s : Shared) (H : Hp) (E : XK), Room k (A.deeper (envOfC qual scope s.heap.objs.size f cdv)) → JB (cxOf (L2N.CX P w) P w K mg base N qual scope f cdv A outer s H E) (WD E) body g) :
    FnOk P w K mg base (L2N.CX P w) (k + 1) f fd ps (spD K ps.length (runD N.length g)) := by
  refine F.ok S (fun vs H Q E h => h.1) fun cdv A outer s H vs Q E hr h => ⟨_, hb cdv A outer s H E hr, ?_⟩
  obtain ⟨hl, F0, a, t, rest, ns, ws, ts, ds, rfl, l, hs, ht, nF, qt, q, h⟩ := h
  have S0 := st_startD (u := t) N (by simp only [List.length_cons] at hl; omega) l hs ht nF qt q
  refine ⟨⟨cutH H t, F0, t, t⟩, F0, enT N.length ns ts ds, S0, ?_⟩
  have fin : ∀ {d : D} {e : En} {ts' : List D} {v : V} {σ' : L2.St} {H' F' : Hp}, townOf e = some ts' → Le F0 F' → SR K ⟨cutH H t, F0, t, t⟩ F' e σ' H' → Dq K F' v d →
      (∀ v H' F' ws', (∀ b o, b ≠ t → H b = some o → H' b = some o) → Le F0 F' → Le F' H' → (∀ b o, F' b = some o → F0 b = some o ∨ H b = none) → H' t = some (.lst ws') → DqAll K F' ws' ts' → Dq K F' v d → Q v H') → Q v H' := by
    intro d e ts' v σ' H' F' q1 l' S' z h
    unfold townOf at q1
    split at q1
    · rename_i ts2 q2
      cases q1
      obtain ⟨u, g1, g2⟩ := S'.sl 1 _ q2
      obtain ⟨p, us, rfl, k2, k3, k4, k5, k6⟩ := g2
      have k6 : p = t := k6 rfl
      subst k6
      refine h v H' F' us (fun b o nb e => S'.same b o (by show cutH H p b = some o; rw [cutH_ne nb]; exact e)) l' S'.fh (fun b o e => ?_) k2 k5 z
      rcases S'.new b o e with y | y
      · exact .inl y
      · refine .inr ?_
        have nb : b ≠ p := fun zz => by rw [zz, k3] at e; cases e
        have y : cutH H p b = none := y
        rw [cutH_ne nb] at y
        exact y
    · cases q1
  unfold runD at h
  cases q : g (enT N.length ns ts ds) with
  | nx e =>
    rw [q] at h
    unfold O.t at h
    simp only at h
    cases q1 : townOf e with
    | none => rw [q1] at h; exact h.elim
    | some ts' =>
      rw [q1] at h
      intro σ' H' F' l' S'
      exact fin q1 l' S' .non h
  | rt d e =>
    rw [q] at h
    unfold O.t at h
    simp only at h
    cases q1 : townOf e with
    | none => rw [q1] at h; exact h.elim
    | some ts' =>
      rw [q1] at h
      intro v σ' H' F' l' S' z
      exact fin q1 l' S' z h
  | ex c e => rw [q] at h; exact h.elim
  | bk e => rw [q] at h; exact h.elim
  | ct e => rw [q] at h; exact h.elim
  | bad => rw [q] at h; exact h.elim
/-- the list of a slot is changed elsewhere, and the heap grows -/
theorem SR.mutGrow {K : PySem.W.Frag} {B : Bs} {F F' : Hp} {env : En} {σ : L2.St} {H H' : Hp} (S : SR K B F env σ H) {i : Nat} {a : Addr} {bb : Bool} {ds es : List D} {ws : List V} (hi : env[i]? = some (.ow bb ds)) (hv : σ[i]? = some (some (.ref a)))
    (k : ∀ b o, b ≠ a → H b = some o → H' b = some o) (l : Le F F') (f : Le F' H') (n : ∀ b o, F' b = some o → F b = some o ∨ H b = none) (ha : H' a = some (.lst ws)) (w : DqAll K F' ws es) : SR K B F' (env.set i (.ow bb es)) σ H' := by
  obtain ⟨v, h1, h2⟩ := S.sl i _ hi
  rw [hv] at h1
  have h1 : some (V.ref a) = v := Option.some.inj h1
  subst h1
  obtain ⟨a', vs, h3, h4, h5, h6, h7, h8⟩ := h2
  cases h3
  have no : ∀ b u, H b = some u → F b = none → F' b = none := fun b u hb fb => by
    cases q : F' b with
    | none => rfl
    | some o =>
      rcases n b o q with z | z
      · rw [fb] at z; cases z
      · rw [hb] at z; cases z
  have ne' : ∀ (j : Nat) (s : Sl) (v : Option V) (x : Addr), i ≠ j → env[j]? = some s → σ[j]? = some v → Foot H s v x → x ≠ a := fun j s v x ne hj hw f z => by
    subst z
    exact S.own i j _ s _ v x ne hi hj hv hw rfl f
  refine S.put i (fun b o e => k b o (ne_of_none e h6) (S.same b o e)) l f (fun b o e => ?_) rfl (fun _ _ => rfl) (fun j s v x ne hj hw fo => ?_) fun _ => ⟨_, hv, ⟨a, ws, rfl, ha, no a _ h4 h5, h6, w, h8⟩, fun x fo j s v ne hj hw f' => ?_⟩
  · rcases n b o e with q | q
    · exact S.new b o q
    · exact .inr (S.same.none q)
  · obtain ⟨⟨u, e1⟩, e2, _⟩ := S.foot hj hw fo
    exact ⟨(k x u (ne' j s v x ne hj hw fo) e1).trans e1.symm, no x u e1 e2⟩
  · cases (show some (V.ref a) = some (.ref x) from fo)
    exact ne' j s v a ne hj hw f' rfl
/-- a call that hands the script on -/
def eCallS (m : List Int → List D → Rf) (fa : M (List Vd)) : M Vd := fun env => (fa env).bnd fun xs e => match xs with
  | .sl i :: xs => (match e[i]? with
    | some (.sc ns) => (fzAll xs e).bnd fun ds e => (match m ns ds with
      | .ok d => .ok (.dat d) e
      | .exc c => .exc c e
      | .bad => .bad)
    | _ => .bad)
  | _ => .bad
def eDraw (m : List Int → List D → List D → RfD) (fa : M (List Vd)) : M Vd := fun env => (fa env).bnd fun xs e => match xs with
  | .sl i :: .sl j :: xs => (match e[i]? with
    | some (.sc ns) => (fzAll xs e).bnd fun ds e => (match e[j]? with
      | some (.ow b ts) => (match m ns ts ds with
        | .ok d ts' => .ok (.dat d) (e.set j (.ow b ts'))
        | .bad => .bad)
      | _ => .bad)
    | _ => .bad)
  | _ => .bad
def ArS (n : Nat) (m : List Int → List D → Rf) : List Int → List D → Rf := fun ns ds => if ds.length + 1 = n then m ns ds else .bad
def ArD (n : Nat) (m : List Int → List D → List D → RfD) : List Int → List D → List D → RfD := fun ns ts ds => if ds.length + 2 = n then m ns ts ds else .bad
section
variable {X : Cx} {W : WX} {x : Str} {p pos : Pos} {e : Expr} {es : List Expr} {fa : M (List Vd)} {k n : Nat} {f : Addr} {fd : FuncData} {ps : List Str}
theorem je_callS {m : List Int → List D → Rf} (F : FnOk X.prog X.w X.K X.mg X.base (L2N.CX X.prog X.w) k f fd ps (spS X.K n m)) (hr : Room k X.A) (hg : Gl X x) (hm : X.mg x = some (.ref f)) (hk : PySem.W.keepIn X.K (.ref f) = true) (hb : Binds X.K fd ps []) (tk : L2N.Takes X W)
    (ha : JA X W (e :: es) fa) (hn : es.length + 1 = n := by rfl) (hdb : (x == ("__debug__" : Str)) = false := by decide) (he : starEach (e :: es) X.env = (false, eval e X.env) :: starEach es X.env := by rfl) (hpl : (backTo pos (starEach es X.env)).any (·.1) = false := by rfl) :
    JE X W (.Call (.Name x p) (e :: es) [] pos) (eCallS (ArS n m) fa) := by
  refine PE.imp (pe_callS F hr hg hm hk hb (fun σ => L2N.passAt tk σ) ha hdb he hpl) fun σ H Q h => ?_
  obtain ⟨B, F, env, S, h⟩ := h
  refine tA_in S .refl h.bnd fun xs e1 vs H1 F1 l1 S1 r1 h1 => ?_
  cases r1 with
  | nil => exact h1.elim
  | @cons v vs x xs rv rs =>
    cases x with
    | dat d => exact h1.elim
    | sl i =>
      simp only at h1
      cases q : e1[i]? with
      | none => rw [q] at h1; exact h1.elim
      | some s =>
        rw [q] at h1
        cases s with
        | no => exact h1.elim
        | va d => exact h1.elim
        | ow b d => exact h1.elim
        | ob b d => exact h1.elim
        | sc ns =>
          obtain ⟨u, g1, a, rfl, g2⟩ := S1.sl i _ q
          have rv : σ[i]? = some (some v) := rv
          rw [rv] at g1
          cases g1
          have h1 := Rs.bnd h1
          cases q2 : fzAll xs e1 with
          | bad => rw [q2] at h1; exact h1.elim
          | exc c' e' => exact absurd q2 (fzAll_noexc _ _ _ _)
          | ok ds e2 =>
            rw [q2] at h1
            obtain ⟨F2, l2, S2, z⟩ := SR.fzAll S1 rs q2
            have h2 : Rs (match (if ds.length + 1 = n then m ns ds else .bad) with | .ok d => R.ok (Vd.dat d) e2 | .exc c => R.exc c e2 | .bad => R.bad) _ _ := h1
            by_cases hd : ds.length + 1 = n
            · rw [if_pos hd] at h2
              refine ⟨by rw [← hd, List.length_cons, dqAll_len z], F2, a, vs, ns, ds, rfl, S2.fh, g2.mono l2, z, ?_⟩
              cases q3 : m ns ds with
              | ok d =>
                rw [q3] at h2
                intro v H' F' lH lF fH nw zd
                exact h2 v H' F' ((l1.trans l2).trans lF) (S2.grow lF lH fH nw) zd
              | exc c =>
                rw [q3] at h2
                intro H' lH
                exact h2 H' F2 (l1.trans l2) (S2.grow .refl lH (S2.fh.trans lH) fun b o e => .inl e)
              | bad => rw [q3] at h2; exact h2.elim
            · rw [if_neg hd] at h2; exact h2.elim
theorem je_draw {m : List Int → List D → List D → RfD} (F : FnOk X.prog X.w X.K X.mg X.base (L2N.CX X.prog X.w) k f fd ps (spD X.K n m)) (hr : Room k X.A) (hg : Gl X x) (hm : X.mg x = some (.ref f)) (hk : PySem.W.keepIn X.K (.ref f) = true) (hb : Binds X.K fd ps []) (tk : L2N.Takes X W)
    (ha : JA X W (e :: es) fa) (hdb : (x == ("__debug__" : Str)) = false := by decide) (he : starEach (e :: es) X.env = (false, eval e X.env) :: starEach es X.env := by rfl) (hpl : (backTo pos (starEach es X.env)).any (·.1) = false := by rfl) :
    JE X W (.Call (.Name x p) (e :: es) [] pos) (eDraw (ArD n m) fa) := by
  refine PE.imp (pe_callS F hr hg hm hk hb (fun σ => L2N.passAt tk σ) ha hdb he hpl) fun σ H Q h => ?_
  obtain ⟨B, F, env, S, h⟩ := h
  refine tA_in S .refl h.bnd fun xs e1 vs H1 F1 l1 S1 r1 h1 => ?_
  cases r1 with
  | nil => exact h1.elim
  | @cons v vs x xs rv rs =>
    cases x with
    | dat d => exact h1.elim
    | sl i =>
      cases rs with
      | nil => exact h1.elim
      | @cons v2 vs x xs rv2 rs =>
        cases x with
        | dat d => exact h1.elim
        | sl j =>
          simp only at h1
          cases q : e1[i]? with
          | none => rw [q] at h1; exact h1.elim
          | some s =>
            rw [q] at h1
            cases s with
            | no => exact h1.elim
            | va d => exact h1.elim
            | ow b d => exact h1.elim
            | ob b d => exact h1.elim
            | sc ns =>
              obtain ⟨u, g1, a, rfl, g2⟩ := S1.sl i _ q
              have rv : σ[i]? = some (some v) := rv
              rw [rv] at g1
              cases g1
              have h1 := Rs.bnd h1
              cases q2 : fzAll xs e1 with
              | bad => rw [q2] at h1; exact h1.elim
              | exc c' e' => exact absurd q2 (fzAll_noexc _ _ _ _)
              | ok ds e2 =>
                rw [q2] at h1
                obtain ⟨F2, l2, S2, z⟩ := SR.fzAll S1 rs q2
                have h2 : Rs (match e2[j]? with
                  | some (.ow b ts) => (match (if ds.length + 2 = n then m ns ts ds else .bad) with | .ok d ts' => R.ok (Vd.dat d) (e2.set j (.ow b ts')) | .bad => R.bad)
                  | _ => R.bad) _ _ := h1
                cases q5 : e2[j]? with
                | none => rw [q5] at h2; exact h2.elim
                | some s =>
                  rw [q5] at h2
                  cases s with
                  | no => exact h2.elim
                  | va d => exact h2.elim
                  | sc d => exact h2.elim
                  | ob b d => exact h2.elim
                  | ow b ts =>
                    obtain ⟨u2, g3, t, ws, rfl, g4, g5, g6, g7, g8⟩ := S2.sl j _ q5
                    have rv2 : σ[j]? = some (some v2) := rv2
                    rw [rv2] at g3
                    cases g3
                    by_cases hd : ds.length + 2 = n
                    · simp only [if_pos hd] at h2
                      refine ⟨by rw [← hd, List.length_cons, List.length_cons, dqAll_len z], F2, a, t, vs, ns, ws, ts, ds, rfl, S2.fh, g2.mono l2, g4, g5, g7, z, ?_⟩
                      cases q3 : m ns ts ds with
                      | ok d ts' =>
                        rw [q3] at h2
                        intro v H' F' ws' lH lF fH nw ht' hw zd
                        exact h2 v H' F' ((l1.trans l2).trans lF) (S2.mutGrow q5 rv2 lH lF fH nw ht' hw) zd
                      | bad => rw [q3] at h2; exact h2.elim
                    · simp only [if_neg hd] at h2; exact h2.elim
/-! the script itself -/
def scAt (e : En) (i : Nat) : Option (List Int) := match e[i]? with
  | some (.sc ns) => some ns
  | _ => none
theorem SR.sc {K : PySem.W.Frag} {B : Bs} {F : Hp} {env : En} {σ : L2.St} {H : Hp} (S : SR K B F env σ H) {i : Nat} {ns : List Int} (h : scAt env i = some ns) : ∃ a, σ[i]? = some (some (.ref a)) ∧ Script K F a ns := by
  unfold scAt at h
  split at h
  · rename_i ms q
    cases h
    obtain ⟨u, g1, a, rfl, g2⟩ := S.sl i _ q
    exact ⟨a, g1, g2⟩
  · cases h
def eSLen (i : Nat) : M Vd := fun e => match scAt e i with
  | some ns => .ok (.dat (.int ns.length)) e
  | none => .bad
def eSNil (i : Nat) : M Vd := fun e => match scAt e i with
  | some ns => .ok (.dat (.bool ns.isEmpty)) e
  | none => .bad
def eSAt (i : Nat) (f : M Vd) : M Vd := fun env => match scAt env i with
  | some ns => (f env).bnd fun x e => (match rd e x with
    | some (.int k) => (match atI ns k with
      | some n => .ok (.dat (.int n)) e
      | none => .bad)
    | _ => .bad)
  | none => .bad
theorem je_slen {i : Nat} {y : Str} {p2 : Pos} (hN : X.N[i]? = some y) (hv : Vis X.env.scope y) (hg : Gl X "len") (hm : X.mg "len" = none) (hd : (y == ("__debug__" : Str)) = false := by decide) (hcd : (y == ("__classdict__" : Str)) = false := by decide)
    (he : starEach [.Name y p2] X.env = (false, eval (.Name y p2) X.env) :: starEach [] X.env := by rfl) (hpl : (backTo pos (starEach [] X.env)).any (·.1) = false := by rfl) : JE X W (.Call (.Name "len" p) [.Name y p2] [] pos) (eSLen i) := by
  refine PE.imp (pe_callB call_len_seq hg hm boot_len (pa_cons (pe_var hN hv hd hcd) pa_nil he) (by decide) (by decide) he hpl) fun σ H Q h => ?_
  obtain ⟨B, F, env, S, h⟩ := h
  unfold eSLen at h
  cases q : scAt env i with
  | none => rw [q] at h; exact h.elim
  | some ns =>
    rw [q] at h
    obtain ⟨a, g1, g2⟩ := S.sc q
    refine ⟨_, g1, a, ns.map V.int, rfl, .inl (S.fh.sqL g2.1), ?_⟩
    rw [List.length_map]
    exact h _ H F .refl S (.int _)
theorem snil_in {i : Nat} {σ : L2.St} {H : Hp} {Q : VK} (h : tE X.K W (eSNil i) σ H Q) : tOp (rEqD X.K) (tVar i) (tN X.K W (nLst aNil)) σ H Q := by
  obtain ⟨B, F, env, S, h⟩ := h
  unfold eSNil at h
  cases q : scAt env i with
  | none => rw [q] at h; exact h.elim
  | some ns =>
    rw [q] at h
    obtain ⟨a, g1, g2⟩ := S.sc q
    refine ⟨_, g1, ?_⟩
    refine tN_in (P := fun ds e => ds = [] ∧ e = env) (G := F) S .refl ⟨rfl, rfl⟩ fun ds e pp H' F' l' S' fr hh => ?_
    obtain ⟨rfl, rfl⟩ := hh
    obtain ⟨vs, f1, f2⟩ := fr.at_
    cases f2
    have dp : ∀ ms : List Int, DpAll X.K H' (ms.map V.int) (ms.map PyData.int) := fun ms => by
      induction ms with
      | nil => exact .nil
      | cons m ms ih => exact .cons (.int m) ih
    refine ⟨.list (ns.map PyData.int), .list [], .lst (S'.fh.sqL (l'.sqL g2.1)) (dp ns), .lst (SqL.of f1) .nil, PySem.W.shaped_ints ns, rfl, ?_⟩
    have e1 : PyData.eqv (.list (ns.map PyData.int)) (.list []) = ns.isEmpty := by cases ns <;> rfl
    rw [e1]
    exact h _ H' F' l' S' (.bl _)
theorem je_snil {i : Nat} {y : Str} {p2 p3 : Pos} (hu : X.A.units + 64 < cLine) (hN : X.N[i]? = some y) (hv : Vis X.env.scope y) (hd : (y == ("__debug__" : Str)) = false := by decide) (hcd : (y == ("__classdict__" : Str)) = false := by decide) : JE X W (.Compare (.Name y p2) [.Eq] [.List [] p3] pos) (eSNil i) :=
  PE.imp (pe_cmpR (op_eqD hu) (pe_var hN hv hd hcd) (jn_lst (W := W) ja_nil) (by rfl)) fun _ _ _ h => snil_in h
theorem jt_snil {i : Nat} {y : Str} {p2 p3 : Pos} (hu : X.A.units + 64 < cLine) (hN : X.N[i]? = some y) (hv : Vis X.env.scope y) (hd : (y == ("__debug__" : Str)) = false := by decide) (hcd : (y == ("__classdict__" : Str)) = false := by decide) : JT X W (.Compare (.Name y p2) [.Eq] [.List [] p3] pos) (bT (eSNil i)) :=
  PT.imp (pt_cmpR (op_eqD hu) (pe_var hN hv hd hcd) (jn_lst (W := W) ja_nil) (by rfl)) fun _ _ _ h => snil_in (toT h)
theorem je_sat {i : Nat} {y : Str} {p2 : Pos} {b : Expr} {fb : M Vd} (hN : X.N[i]? = some y) (hv : Vis X.env.scope y) (hb : JE X W b fb) (hs : PlainIx b := by exact fun _ _ => rfl) (hd : (y == ("__debug__" : Str)) = false := by decide) (hcd : (y == ("__classdict__" : Str)) = false := by decide) : JE X W (.Subscript (.Name y p2) b pos) (eSAt i fb) := by
  refine PE.imp (pe_ix ix_seq (pe_var hN hv hd hcd) hb hs) fun σ H Q h => ?_
  obtain ⟨B, F, env, S, h⟩ := h
  unfold eSAt at h
  cases q : scAt env i with
  | none => rw [q] at h; exact h.elim
  | some ns =>
    rw [q] at h
    obtain ⟨a, g1, g2⟩ := S.sc q
    refine ⟨_, g1, ?_⟩
    refine tE_in S .refl (Rs.bnd h) fun x e1 v H1 F1 l1 S1 r1 h1 => ?_
    cases q1 : rd e1 x with
    | none => rw [q1] at h1; exact h1.elim
    | some d =>
      rw [q1] at h1
      cases d with
      | int k =>
        have t := S1.tp r1 q1
        cases t
        simp only at h1
        cases q2 : atI ns k with
        | none => rw [q2] at h1; exact h1.elim
        | some n =>
          rw [q2] at h1
          refine .inl ⟨a, ns.map V.int, k, .int n, rfl, rfl, S1.fh.sqL (l1.sqL g2.1), ?_, h1 _ H1 F1 l1 S1 (.int _)⟩
          unfold atI at q2 ⊢
          rw [List.length_map]
          cases q3 : ixN ns.length k with
          | none => rw [q3] at q2; cases q2
          | some j =>
            rw [q3] at q2
            have q2 : ns[j]? = some n := q2
            show (ns.map V.int)[j]? = some (V.int n)
            rw [List.getElem?_map, q2]
            rfl
      | _ => exact h1.elim
end
end Pf
namespace Pf
open PySem PySem.Spec PyProof.Rows L2
def gRev : D → Option D
  | .list ds => some (.list ds.reverse)
  | .tuple ds => some (.tuple ds.reverse)
  | _ => none
/-! ### a new list by an operator -/
def RDN2 (K : PySem.W.Frag) (r : R2) (g : D → D → Option (List D)) : Prop := ∀ (F H : Hp) (x y : V) (a b : D) (ds : List D), Le F H → Tp K F H x a → Tp K F H y b → g a b = some ds → ∀ Q : VK, (∀ p vs, H p = none → DqAll K F vs ds → Q (.ref p) (upd H p (.lst vs))) → r x y H Q
def nOp2 (g : D → D → Option (List D)) (fa fb : M Vd) : M (List D) := fun env => (fa env).bnd fun x e1 => (fb e1).bnd fun y e2 => match rd e2 x, rd e2 y with
  | some a, some b => (match g a b with
    | some ds => .ok ds e2
    | none => .bad)
  | _, _ => .bad
def nRep : D → D → Option (List D)
  | .list xs, .int k => if (inK k && szL (xs.length * k.toNat)) = true then some (List.replicate k.toNat xs).flatten else none
  | _, _ => none
def nCat : D → D → Option (List D)
  | .list xs, .list ys => if szL (xs.length + ys.length) = true then some (xs ++ ys) else none
  | _, _ => none
theorem dn_rep {K : PySem.W.Frag} : RDN2 K rRep nRep := by
  intro F H x y a b ds l ta tb e Q k
  cases ta with
  | @lst p xs ds h1 h2 =>
    cases tb with
    | int j =>
      unfold nRep at e
      simp only at e
      split at e
      · rename_i z
        cases e
        rw [Bool.and_eq_true] at z
        have z1 := inK_ok z.1
        exact ⟨p, j, xs, rfl, rfl, h1, z1.1, z1.2, by rw [dqAll_len h2]; exact szL_line z.2, fun r n => k _ _ n (dqAll_repF h2 _)⟩
      · cases e
    | _ => cases e
  | _ => cases e
theorem dn_cat {K : PySem.W.Frag} : RDN2 K rCat nCat := by
  intro F H x y a b ds l ta tb e Q k
  cases ta with
  | @lst p xs ds h1 h2 =>
    cases tb with
    | @lst p' xs' ds' h1' h2' =>
      unfold nCat at e
      simp only at e
      split at e
      · rename_i z
        cases e
        have z := szL_line z
        rw [← dqAll_len h2, ← dqAll_len h2'] at z
        exact ⟨p, p', xs, xs', rfl, rfl, h1, h1', z, fun r n => k _ _ n (dqAll_app h2 h2')⟩
      · cases e
    | _ => cases e
  | _ => cases e
theorem jn_op2 {X : Cx} {W : WX} {a b : Expr} {fa fb : M Vd} {pos : Pos} {op : Operator} {r : R2} {g : D → D → Option (List D)} (ho : OpR X (binaryOp op) r) (hr : RDN2 X.K r g) (ha : JE X W a fa) (hb : JE X W b fb) : JN X W (.BinOp a op b pos) (nOp2 g fa fb) := by
  refine PE.imp (pe_op ho ha hb) fun σ H Q h => ?_
  obtain ⟨B, F, env, S, h⟩ := h
  refine tE_in S .refl h.bnd fun x e1 v H1 F1 l1 S1 r1 h1 => ?_
  refine tE_in S1 l1 h1.bnd fun y e2 u H2 F2 l2 S2 r2 h2 => ?_
  cases q1 : rd e2 x with
  | none => rw [q1] at h2; exact h2.elim
  | some d1 =>
    cases q2 : rd e2 y with
    | none => rw [q1, q2] at h2; exact h2.elim
    | some d2 =>
      rw [q1, q2] at h2
      simp only at h2
      cases q3 : g d1 d2 with
      | none => rw [q3] at h2; exact h2.elim
      | some ds =>
        rw [q3] at h2
        refine hr F2 H2 v u d1 d2 ds S2.fh (S2.tp (r1.mono l2) q1) (S2.tp r2 q2) q3 Q fun p vs n w => ?_
        obtain ⟨S3, fr⟩ := S2.fresh n w
        exact h2 p _ F2 (l1.trans l2) S3 fr
/-! ### a def by its name -/
/-- the def x keeps the promise sp -/
def Fn (P : Program) (w : World) (K : PySem.W.Frag) (mg : Str → Option Value) (base : Heap) (k : Nat) (x : Str) (sp : Sp) : Prop := ∃ f fd ps, FnOk P w K mg base (L2N.CX P w) k f fd ps sp ∧ mg x = some (.ref f) ∧ PySem.W.keepIn K (.ref f) = true ∧ Binds K fd ps []
abbrev FnX (X : Cx) (k : Nat) (x : Str) (sp : Sp) : Prop := Fn X.prog X.w X.K X.mg X.base k x sp
section
variable {X : Cx} {W : WX} {x : Str} {p pos : Pos} {e : Expr} {es : List Expr} {fa : M (List Vd)} {k n : Nat}
theorem je_fn {m : List D → Rf} (F : FnX X k x (spP X.K n m)) (hr : Room k X.A) (hg : Gl X x) (tk : L2N.Takes X W) (ha : JA X W (e :: es) fa) (hdb : (x == ("__debug__" : Str)) = false := by decide) (he : starEach (e :: es) X.env = (false, eval e X.env) :: starEach es X.env := by rfl) (hpl : (backTo pos (starEach es X.env)).any (·.1) = false := by rfl) :
    JE X W (.Call (.Name x p) (e :: es) [] pos) (eCall (Ar n m) fa) := by
  obtain ⟨f, fd, ps, F, hm, hk, hb⟩ := F
  exact je_call F hr hg hm hk hb tk ha hdb he hpl
theorem je_fn0 {m : List D → Rf} (F : FnX X k x (spP X.K 0 m)) (hr : Room k X.A) (hg : Gl X x) (hdb : (x == ("__debug__" : Str)) = false := by decide) : JE X W (.Call (.Name x p) [] [] pos) (eCall0 m) := by
  obtain ⟨f, fd, ps, F, hm, hk, hb⟩ := F
  exact je_call0 F hr hg hm hk hb hdb
theorem je_fnS {m : List Int → List D → Rf} (F : FnX X k x (spS X.K n m)) (hr : Room k X.A) (hg : Gl X x) (tk : L2N.Takes X W) (ha : JA X W (e :: es) fa) (hdb : (x == ("__debug__" : Str)) = false := by decide) (he : starEach (e :: es) X.env = (false, eval e X.env) :: starEach es X.env := by rfl) (hpl : (backTo pos (starEach es X.env)).any (·.1) = false := by rfl) (hn : es.length + 1 = n := by rfl) :
    JE X W (.Call (.Name x p) (e :: es) [] pos) (eCallS (ArS n m) fa) := by
  obtain ⟨f, fd, ps, F, hm, hk, hb⟩ := F
  exact je_callS F hr hg hm hk hb tk ha hn hdb he hpl
theorem je_fnD {m : List Int → List D → List D → RfD} (F : FnX X k x (spD X.K n m)) (hr : Room k X.A) (hg : Gl X x) (tk : L2N.Takes X W) (ha : JA X W (e :: es) fa) (hdb : (x == ("__debug__" : Str)) = false := by decide) (he : starEach (e :: es) X.env = (false, eval e X.env) :: starEach es X.env := by rfl) (hpl : (backTo pos (starEach es X.env)).any (·.1) = false := by rfl) :
    JE X W (.Call (.Name x p) (e :: es) [] pos) (eDraw (ArD n m) fa) := by
  obtain ⟨f, fd, ps, F, hm, hk, hb⟩ := F
  exact je_draw F hr hg hm hk hb tk ha hdb he hpl
end
end Pf
namespace Pf
open PySem PySem.Spec PyProof.Rows L2
/-! ### facts of the head, with one test more -/
def obsP (fa : List He.Fa) (fn : List He.DefD) (ex : PySem.W.Frag → Bool) (K : PySem.W.Frag) : He.AlD := (((fa.all fun f => f.ok K) && fn.all fun d => d.ok K) && ex K, fn.map fun d => He.fnW K d.at_)
def SaysP (fa : List He.Fa) (fn : List He.DefD) (ex : PySem.W.Frag → Bool) (K : PySem.W.Frag) : Prop := obsP fa fn ex K = He.valD fn
def obsPG (n : Nat) (fa : List He.Fa) (fn : List He.DefD) (ex : PySem.W.Frag → Bool) (g : Addr → Option Obj) : He.AlD := obsP fa fn ex (He.frG g (He.asD g n))
def hookP (n : Nat) (fa : List He.Fa) (fn : List He.DefD) (ex : PySem.W.Frag → Bool) : PySem.W.Hook where
  α := He.AlD
  obs := fun s => obsPG n fa fn ex s.heap.get?
  val := fun _ => He.valD fn
  says := fun _ h => ∃ K : PySem.W.Frag, K.In h ∧ SaysP fa fn ex K
  of := fun _ _ e => ⟨_, He.frG_in, e⟩
  keeps := fun _ _ _ ⟨K, hK, c⟩ k => ⟨K, PySem.W.Frag.In.keeps hK k, c⟩
theorem obsPG_eq {n : Nat} {fa : List He.Fa} {fn : List He.DefD} {ex : PySem.W.Frag → Bool} {g : Addr → Option Obj} {s : Shared} (h : ∀ a, g a = s.heap.get? a) : obsPG n fa fn ex g = (hookP n fa fn ex).obs s := by
  have e : g = s.heap.get? := funext h
  rw [e] <;> rfl
section
variable {fa : List He.Fa} {fn : List He.DefD} {ex : PySem.W.Frag → Bool} {K : PySem.W.Frag} {mg : Str → Option Value}
theorem SaysP.d (c : SaysP fa fn ex K) : He.SaysD fa fn K := by
  have h1 : ((((fa.all fun f => f.ok K) && fn.all fun d => d.ok K) && ex K : Bool)) = true := congrArg (fun z : He.AlD => z.1) c
  have h2 := congrArg (fun z : He.AlD => z.2) c
  exact Prod.ext (He.ba h1).1 h2
theorem SaysP.x (c : SaysP fa fn ex K) : ex K = true := (He.ba (show ((((fa.all fun f => f.ok K) && fn.all fun d => d.ok K) && ex K : Bool)) = true from congrArg (fun z : He.AlD => z.1) c)).2
/-- what the walk knows of the module -/
def Ok (fa : List He.Fa) (fn : List He.DefD) (ex : PySem.W.Frag → Bool) (K : PySem.W.Frag) (mg : Str → Option Value) : Prop := ∃ h : Heap, K.In h ∧ h.Ns mainGlobals mg ∧ SaysP fa fn ex K
theorem Ok.glo (c : Ok fa fn ex K mg) (i : Nat) {x : Str} (h : fa[i]? = some (.glo x) := by rfl) : mg x = some (.ref (He.ga K x)) :=
  let ⟨_, X, G, s⟩ := c
  He.glo_ok X G (s.d.fact i h)
theorem Ok.free (c : Ok fa fn ex K mg) (i : Nat) {x : Str} (h : fa[i]? = some (.free x) := by rfl) : mg x = none :=
  let ⟨_, X, G, s⟩ := c
  He.free_ok X G (s.d.fact i h)
theorem Ok.int (c : Ok fa fn ex K mg) (i : Nat) {x : Str} {n : Int} (h : fa[i]? = some (.int x n) := by rfl) : ∃ t, mg x = some (.int n t) :=
  let ⟨_, X, G, s⟩ := c
  He.int_ok X G (s.d.fact i h)
theorem Ok.str (c : Ok fa fn ex K mg) (i : Nat) {x z : Str} (h : fa[i]? = some (.str x z) := by rfl) : ∃ t, mg x = some (.str z t) :=
  let ⟨_, X, G, s⟩ := c
  He.str_ok X G (s.d.fact i h)
theorem Ok.exc (c : Ok fa fn ex K mg) (i : Nat) {x : Str} (h : fa[i]? = some (.exc x) := by rfl) : (He.Fa.exc x).ok K = true :=
  let ⟨_, _, _, s⟩ := c
  s.d.fact i h
theorem Ok.x (c : Ok fa fn ex K mg) : ex K = true :=
  let ⟨_, _, _, s⟩ := c
  s.x
theorem Ok.def_ (c : Ok fa fn ex K mg) (i : Nat) {d : He.DefD} (h : fn[i]? = some d := by rfl) : ∃ fd, FunD K d.name d.qual d.params d.body d.scope (d.dvs K) (d.kws K) (He.fAd K d.at_) fd :=
  let ⟨_, _, _, s⟩ := c
  s.d.def_ i h
end
/-! ### a def from its datum -/
section
variable {P : Program} {w : World} {K : PySem.W.Frag} {mg : Str → Option Value} {base : Heap} {x : Str} {params : Arguments} {body : List Stmt} {scope : Scope} {N ps : List Str} {k : Nat} {g : En → O}
abbrev BdOk (P : Program) (w : World) (K : PySem.W.Frag) (mg : Str → Option Value) (base : Heap) (N : List Str) (x : Str) (body : List Stmt) (scope : Scope) (k : Nat) (g : En → O) : Prop :=
  ∀ (f : Addr) (cdv : Value) (A : Around) (outer : List Env) (s : Shared) (H : Hp) (E : XK), Room k (A.deeper (envOfC x scope s.heap.objs.size f cdv)) →
    L2N.Takes (cxOf (L2N.CX P w) P w K mg base N x scope f cdv A outer s H E) (WD E) →
    PassesOwn (model P w) (A.deeper (envOfC x scope s.heap.objs.size f cdv)) (envOfC x scope s.heap.objs.size f cdv) (cxOf (L2N.CX P w) P w K mg base N x scope f cdv A outer s H E).xe →
    JB (cxOf (L2N.CX P w) P w K mg base N x scope f cdv A outer s H E) (WD E) body g
theorem BdOk.go (hb : BdOk P w K mg base N x body scope k g) (f : Addr) (cdv : Value) (A : Around) (outer : List Env) (s : Shared) (H : Hp) (E : XK) (hr : Room k (A.deeper (envOfC x scope s.heap.objs.size f cdv))) :
    JB (cxOf (L2N.CX P w) P w K mg base N x scope f cdv A outer s H E) (WD E) body g :=
  hb f cdv A outer s H E hr (L2N.takes_of rfl rfl rfl rfl) (passes_of rfl)
abbrev BdArgs (x : Str) (params : Arguments) (body : List Stmt) (scope : Scope) (ps : List Str) : Prop := ∀ (kV doc pm : Value) (an : Option Addr) (cdv ct : Value) (us : List Value), us.length = ps.length → bindArgs (PySem.W.fnOf x x params body scope .none kV doc pm an cdv ct) ⟨us, []⟩ = pure (ps.zip us)
theorem mkP (F : ∃ fd, FunD K x x params body scope [] [] (He.ga K x) fd) (hm : mg x = some (.ref (He.ga K x))) (S : FnScope N ps scope) (ba : BdArgs x params body scope ps) (hb : BdOk P w K mg base N x body scope k g) :
    Fn P w K mg base (k + 1) x (spP K ps.length (runF N.length g)) :=
  let ⟨fd, F⟩ := F
  ⟨_, fd, ps, fn_pure F S (hb.go _), hm, F.kp, F.bindsN ba⟩
theorem mkS (F : ∃ fd, FunD K x x params body scope [] [] (He.ga K x) fd) (hm : mg x = some (.ref (He.ga K x))) (S : FnScope N ps scope) (hps : ps.length ≤ N.length) (ba : BdArgs x params body scope ps) (hb : BdOk P w K mg base N x body scope k g) :
    Fn P w K mg base (k + 1) x (spS K ps.length (runS N.length g)) :=
  let ⟨fd, F⟩ := F
  ⟨_, fd, ps, fn_script F S hps (hb.go _), hm, F.kp, F.bindsN ba⟩
theorem mkD (F : ∃ fd, FunD K x x params body scope [] [] (He.ga K x) fd) (hm : mg x = some (.ref (He.ga K x))) (S : FnScope N ps scope) (hps : ps.length ≤ N.length) (ba : BdArgs x params body scope ps) (hb : BdOk P w K mg base N x body scope k g) :
    Fn P w K mg base (k + 1) x (spD K ps.length (runD N.length g)) :=
  let ⟨fd, F⟩ := F
  ⟨_, fd, ps, fn_draw F S hps (hb.go _), hm, F.kp, F.bindsN ba⟩
/-- another promise that says as much where it says something -/
theorem Fn.imp {n : Nat} {m m' : List D → Rf} (F : Fn P w K mg base k x (spP K n m)) (h : ∀ ds, m' ds = .bad ∨ m' ds = m ds) : Fn P w K mg base k x (spP K n m') :=
  let ⟨f, fd, ps, F, a, b, c⟩ := F
  ⟨f, fd, ps, fnImp F h, a, b, c⟩
end
theorem js_raiseF {X : Cx} {W : WX} {x m : Str} {jj : Nat} {p p2 pos pos2 : Pos} (c : (He.Fa.exc x).ok X.K = true) (gC : X.mg x = some (.ref (He.ga X.K x))) (hc : X.calm = true) (tk : L2N.Takes X W) (hg : Gl X x) (hdb : (x == ("__debug__" : Str)) = false := by decide) :
    JS X W (.Raise (some (.Call (.Name x p) [.Constant (.str m) jj p2] [] pos)) none pos2) (sRaise x) := by
  obtain ⟨c1, c2, c3, c4⟩ := He.exc_ok c
  exact js_raise hc tk PySem.F.excBase_ValueError c1 gC c2 (raises_own c3 c4) hg hdb
theorem ru65 {k : Nat} {A : Around} (r : Room k A) : A.units + 65 < cLine := by have := r.un; omega
/-- a tuple of numbers of the module -/
def tupI (K : PySem.W.Frag) (x : Str) (ns : List Int) : Bool := He.tupB K x (ns.map He.Dv.int)
theorem tupI_dq {K : PySem.W.Frag} {x : Str} {ns : List Int} (h : tupI K x ns = true) (F : Hp) : Dq K F (.ref (He.ga K x)) (.tuple (ns.map PyData.int)) := by
  have t := He.tupB_ok h F
  refine .tup t ?_
  rw [List.map_map]
  clear t h
  induction ns with
  | nil => exact .nil
  | cons n ns ih => exact .cons (.int n) ih
end Pf
namespace Pf
open PySem PySem.Spec PyProof.Rows L2
/-! ### list.count -/
theorem cnt_eqU {x : V} : ∀ {xs : List V} {us : List Value}, Vals xs us → xs.all flatV = true → us.countP (eqU x) = xs.countP fun y => eqV y x
  | _, _, .nil, _ => rfl
  | y :: xs, u :: us, .cons r t, f => by
    rw [List.all_cons, Bool.and_eq_true] at f
    rw [List.countP_cons, List.countP_cons, cnt_eqU t f.2, eqU_of r f.1]
def rCntF (K : PySem.W.Frag) : V → List V → Hp → VK → Prop := fun x xs H Q => ∃ (a : Addr) (ys : List V) (y : V), x = .ref a ∧ xs = [y] ∧ SqL K H a ys ∧ flatV y = true ∧ ys.all flatV = true ∧ Q (.int (ys.countP fun z => eqV z y : Nat)) H
theorem mt_cntF {X : Cx} : MtR X "list.count" (rCntF X.K) := by
  intro pins s σ H x xs v us Q I rx rxs h
  obtain ⟨a, ys, y, rfl, rfl, hs, fy, fys, q⟩ := h
  cases rx
  cases rxs with
  | cons ry rt =>
    rename_i uy ut
    cases rt
    obtain ⟨its, rv, ⟨⟨cls, dd, data, sl⟩, n, ho, hc, hdn, hd⟩, hlen⟩ := I.list hs
    simp only at hc hd
    subst hc hd
    refine call_meets PySem.F.slot_list_count ⟨_, ho, rfl⟩ PySem.F.entry_list_count (PySem.F.args_list_count_2 _ _) (SeqAt.list_countAt a its.toArray n dd sl uy (eqU y))
      ⟨ho, fun u' hu' => mem_eqAt ry fy rv fys u' (by simpa using hu'), ?_⟩
    have e : its.toArray.toList.countP (eqU y) = ys.countP fun z => eqV z y := cnt_eqU rv fys
    refine ⟨.int (ys.countP fun z => eqV z y : Nat), H, I.tok _, ⟨s.toks, ?_⟩, q⟩
    show Value.int ((its.toArray.toList.countP (eqU y) : Nat) : Int) s.toks = Value.int ((ys.countP fun z => eqV z y : Nat) : Int) s.toks
    rw [e]
/-! ### a def that takes the exception which is handled -/
structure FnE (P : Program) (w : World) (K : PySem.W.Frag) (mg : Str → Option Value) (base : Heap) (C : CXT) (k : Nat) (f : Addr) (fd : FuncData) (ps : List Str) (p : Addr × Obj) (sp : Sp) : Prop where
  len : ∀ vs H Q E, sp vs H Q E → vs.length = ps.length
  run : ∀ (A : Around) (outer : List Env) (s : Shared) (H : Hp) (ar : Args) (us : List Value) (vs : List V) (Q : VK) (E : XK), L2H.RoomH k A → L2H.Hot1 A p → L2H.PinOk outer H s p → Env0 P w K mg base A outer s H → BindsTo s fd ar (ps.zip us) → Vals vs us →
    sp vs H Q E → codeAny (model P w) A (.call (.ref f) ar) (CR C outer P w H s Q E) s
theorem fnE_of {C : CXT} {P : Program} {w : World} {K : PySem.W.Frag} {mg : Str → Option Value} {base : Heap} {k : Nat} {f : Addr} {fd : FuncData} {x qual : Str} {params : Arguments} {body : List Stmt} {scope : Scope} {N ps : List Str} {sp : Sp} {p : Addr × Obj} (F : FunD K x qual params body scope [] [] f fd) (S : FnScope N ps scope)
    (len : ∀ vs H Q E, sp vs H Q E → vs.length = ps.length)
    (hb : ∀ (cdv : Value) (A : Around) (outer : List Env) (s : Shared) (H : Hp) (vs : List V) (Q : VK) (E : XK), L2H.Hot1 A p → L2H.RoomH k (A.deeper (envOfC qual scope s.heap.objs.size f cdv)) → sp vs H Q E →
      ∃ t, PSs (L2H.cxH C P w K mg base N qual scope f cdv A outer s H E p) body t ∧ t { nx := fun _ H' => Q .non H', rt := Q } (L2.start N vs) H) : FnE P w K mg base C (k + 1) f fd ps p sp := by
  obtain ⟨oc, od, dV, kV, doc, pm, an, cdv, ct, osl, rfl, lk, hcd, _, _⟩ := F.ex
  refine ⟨len, fun A outer s H ar us vs Q E hr hot hpin e0 hbi r hsp => ?_⟩
  have up : ∀ b o, base.get? b = some o → s.heap.get? b = some o := fun b o e => (e0.bs b o e).1
  have KX := e0.mod.kin.keeps up
  have nl := e0.mod.nolimit.keeps up
  have kinds : ∀ y ∈ ps.zip us, scope.names.lookup y.1 = some .local ∨ (scope.names.lookup y.1 = some .cell ∧ ((cellsFrom (s.heap.objs.size + 1) scope.names []).lookup y.1).isSome = true) := by
    rintro ⟨z, u⟩ hz
    exact (S.par z (List.of_mem_zip hz).1).elim .inl fun c => .inr ⟨c, PySem.W.cellsFrom_some _ _ _ (.inl c)⟩
  refine codeAny_call_function hr.depth (KX _ _ lk) rfl S.co S.gen rfl (PySem.W.codeRec_of KX hcd) (hbi _ _ _ _ (wpAny_newFunctionEnv_cells S.kind kinds ?_))
  intro env he s1 x1
  subst he
  refine ⟨nl.keeps x1.toInCall.keep, codeAny_func ?_⟩
  obtain ⟨t, ht, hq⟩ := hb cdv A outer s H vs Q E hot (hr.deeper _) hsp
  refine wpAny_mono (ht.run [] s1 _ H _ (L2H.inv_startH S hpin e0 (len _ _ _ _ hsp) r x1) hq) ?_ fun _ _ z => z
  intro fl s' hs
  cases fl with
  | ret u =>
    obtain ⟨v, σ', H', J, rv, q⟩ := hs
    exact ⟨v, H', J.os, J.bare, J.base, J.hok, rv, q⟩
  | next =>
    obtain ⟨σ', H', J, q⟩ := hs
    exact ⟨.non, H', J.os, J.bare, J.base, J.hok, rfl, q⟩
  | brk => exact hs.elim fun _ z => z.elim fun _ z => z.2.elim
  | cont => exact hs.elim fun _ z => z.elim fun _ z => z.2.elim
section
variable {X : Cx} {C : CXT} {k : Nat} {f : Addr} {fd : FuncData} {ps : List Str} {sp : Sp} {E : L2.St → XK} {x : Str} {q pos : Pos} {e : Expr} {es : List Expr} {t : TA} {p : Addr × Obj}
theorem pe_callE (F : FnE X.prog X.w X.K X.mg X.base C k f fd ps p sp) (hr : L2H.RoomH k X.A) (hot : L2H.Hot1 X.A p) (hp : p ∈ X.pn) (hg : Gl X x) (hm : X.mg x = some (.ref f)) (hk : PySem.W.keepIn X.K (.ref f) = true) (hb : Binds X.K fd ps []) (hx : ∀ σ, PassesAt C X σ (E σ))
    (ha : PA X (e :: es) t) (hdb : (x == ("__debug__" : Str)) = false := by decide) (he : starEach (e :: es) X.env = (false, eval e X.env) :: starEach es X.env := by rfl) (hpl : (backTo pos (starEach es X.env)).any (·.1) = false := by rfl) :
    PE X (.Call (.Name x q) (e :: es) [] pos) (tCallS sp E t) := by
  refine ⟨fun pins s σ H Q I h => wpAny_Call_Name_kw (ld_glob I hg hm ?_ hdb)⟩
  refine PySem.W.callWith_K (h₀ := X.base) I.ok.mod.kin hk (thn (ha.run pos pins s σ H _ I h) ?_) he hpl
  rintro us s1 ⟨vs, H1, I1, r, q1⟩
  refine ⟨I1.kIn, ?_⟩
  have lu : us.length = ps.length := r.length.symm.trans (F.len _ _ _ _ q1)
  have b := hb s1 us I1.kIn (by rw [List.append_nil]; exact lu)
  rw [List.append_nil] at b
  obtain ⟨g1, g2, g3, g4, g5⟩ := I1.pin p (List.mem_append_left _ hp)
  have pk : L2H.PinOk X.stack H1 s1 p := ⟨g1, g2, fun z => (List.mem_cons.mp (I1.stkSub p.1 z)).elim g3 g4, g5⟩
  refine wpAny_call (codeAny_mono (F.run X.A X.stack s1 H1 ⟨us, []⟩ us vs Q (E σ) hr hot pk I1.env0 b r q1) ?_)
  intro r2 s2 hq
  cases r2 with
  | error u => exact hx σ pins H1 s1 u s2 I1 hq
  | ok fl =>
    cases fl with
    | ret u => exact I1.after hq
    | next => exact hq.elim
    | brk => exact hq.elim
    | cont => exact hq.elim
/-! isinstance of it -/
theorem call_isP {a D : Addr} {oe : Obj} (hp : (a, oe) ∈ X.pn) (cc : ExcC X.K D) (hz : Zc (.ref D) none oe) (hf : ∃ vs, oe.data = .fields vs) : CallR X (.builtin "isinstance") (rIsE X.K D a) := by
  intro pins s σ H xs us Q I r h
  obtain ⟨c, cv, b, rfl, hcv, e, q⟩ := h
  cases r with
  | cons rx rr =>
    cases rr with
    | cons rt rr =>
      cases rr
      cases rx
      cases hcv _ rt
      have hget := (I.pin (a, oe) (List.mem_append_left _ hp)).1
      obtain ⟨vs, hv⟩ := hf
      obtain ⟨oc, od, oda, osl⟩ := oe
      obtain ⟨rfl, rfl⟩ : oc = .ref D ∧ od = none := hz
      cases (show oda = .fields vs from hv)
      have at_ : PySem.W.InstAt s.heap a ⟨.ref D, none, .fields vs, osl⟩ D none := ⟨hget, rfl, rfl, trivial⟩
      refine PySem.W.kia_one (PySem.W.handS_kitx_exc cc.hg cc.hk cc.hs cc.hd cc.ha cc.hn cc.ht cc.hm) I.kIn at_ e (fun z => nomatch z) ?_
      exact fun tk => ⟨.bl b, H, I.kept (t' := tk) fun _ _ z => z, rfl, q⟩
end
/-! ### _law_which -/
def clsW : List Str := ["InvalidRing", "NotField", "IsField", "InvalidElement", "InvalidNumber", "InvalidValues", "IsZero", "NotGenerator", "NotSquare", "DifferentSize", "NothingToUndo", "ParseError"]
def excCB (K : PySem.W.Frag) (D : Addr) : Bool :=
  decide (PySem.W.findIn K (.ref D) "__getattribute__" = some (some (.builtin "BaseException.__getattribute__"))) && (decide (PySem.W.findIn K (.ref D) "__getattr__" = some none) && (decide (PySem.W.subIn K (.ref D) (.type "BaseException") = some true) && (PySem.W.hasDictIn K D &&
  (decide (PySem.W.findIn K (.ref D) "__class__" = some (some (.builtin "object.__class__"))) && (decide (PySem.W.specialIn K (.builtin "object.__class__") "__get__" = some (some (.builtin "getset_descriptor.__get__"))) && (decide (PySem.W.takesIn K (.builtin "object.__class__") = some true) && decide (PySem.W.mroIn K D (.type "object") = some true)))))))
theorem excCB_ok {K : PySem.W.Frag} {D : Addr} (h : excCB K D = true) : ExcC K D := by
  obtain ⟨h1, h⟩ := He.ba h
  obtain ⟨h2, h⟩ := He.ba h
  obtain ⟨h3, h⟩ := He.ba h
  obtain ⟨h4, h⟩ := He.ba h
  obtain ⟨h5, h⟩ := He.ba h
  obtain ⟨h6, h⟩ := He.ba h
  obtain ⟨h7, h8⟩ := He.ba h
  exact ⟨of_decide_eq_true h1, of_decide_eq_true h2, of_decide_eq_true h3, h4, of_decide_eq_true h5, of_decide_eq_true h6, of_decide_eq_true h7, of_decide_eq_true h8⟩
/-- what is asked of the classes: cs are those that may come -/
def exW (cs : List Str) (K : PySem.W.Frag) : Bool := cs.all fun c => excCB K (He.ga K c) && (decide (PySem.W.exmOne K (.ref (He.ga K c)) (.ref (He.ga K "FieldError")) = some true) && (decide (PySem.W.kitOne K (.ref (He.ga K c)) (.type "ValueError") = some true) &&
  clsW.all fun x => decide (PySem.W.kitOne K (.ref (He.ga K c)) (.ref (He.ga K x)) = some (decide (c = x)))))
structure WOk (K : PySem.W.Frag) (c : Str) : Prop where
  ex : ExcC K (He.ga K c)
  fe : PySem.W.exmOne K (.ref (He.ga K c)) (.ref (He.ga K "FieldError")) = some true
  ve : PySem.W.kitOne K (.ref (He.ga K c)) (.type "ValueError") = some true
  kt : ∀ x ∈ clsW, PySem.W.kitOne K (.ref (He.ga K c)) (.ref (He.ga K x)) = some (decide (c = x))
theorem exW_ok {cs : List Str} {K : PySem.W.Frag} (h : exW cs K = true) {c : Str} (hc : c ∈ cs) : WOk K c := by
  have h := List.all_eq_true.mp h c hc
  obtain ⟨h1, h⟩ := He.ba h
  obtain ⟨h2, h⟩ := He.ba h
  obtain ⟨h3, h4⟩ := He.ba h
  exact ⟨excCB_ok h1, of_decide_eq_true h2, of_decide_eq_true h3, fun x hx => of_decide_eq_true (List.all_eq_true.mp h4 x hx)⟩
/-- readings -/
def tB (a : Addr) (b : Bool) : TE := fun σ H Q => σ[0]? = some (some (.ref a)) ∧ Q (.bl b) H
def tBs (a : Addr) : List Bool → TA
  | [] => tNil
  | b :: bs => tCons (tB a b) (tBs a bs)
theorem tBs_run {a : Addr} {σ : L2.St} {H : Hp} (h : σ[0]? = some (some (.ref a))) : ∀ (bs : List Bool) {Q : List V → Hp → Prop}, Q (bs.map V.bl) H → tBs a bs σ H Q
  | [], _, q => q
  | b :: bs, Q, q => ⟨h, tBs_run h bs (Q := fun xs H2 => Q (.bl b :: xs) H2) q⟩
section
variable {X : Cx} {a : Addr} {oe : Obj} {c x : Str} {p p1 p2 pos : Pos}
theorem pe_isW (hp : (a, oe) ∈ X.pn) (wk : WOk X.K c) (hz : Zc (.ref (He.ga X.K c)) none oe) (hf : ∃ vs, oe.data = .fields vs) (hx : x ∈ clsW) (hN : X.N[0]? = some ("e" : Str)) (hv : Vis X.env.scope "e") (hg : Gl X "isinstance") (hm : X.mg "isinstance" = none) (hg2 : Gl X x) (hm2 : X.mg x = some (.ref (He.ga X.K x)))
    (hdb : (x == ("__debug__" : Str)) = false := by decide) (he : starEach [.Name "e" p1, .Name x p2] X.env = (false, eval (.Name "e" p1) X.env) :: starEach [.Name x p2] X.env := by rfl) (he2 : starEach [.Name x p2] X.env = (false, eval (.Name x p2) X.env) :: starEach [] X.env := by rfl) (hpl : (backTo pos (starEach [.Name x p2] X.env)).any (·.1) = false := by rfl) :
    PE X (.Call (.Name "isinstance" p) [.Name "e" p1, .Name x p2] [] pos) (tB a (decide (c = x))) := by
  have hc : PE X (.Name x p2) (tC (.ref (He.ga X.K x))) := pe_glob (v := .ref (He.ga X.K x)) hg2 hm2 rfl hdb
  refine PE.imp (pe_callB (call_isP hp wk.ex hz hf) hg hm PyProof.Rows.boot_isinstance (pa_cons (pe_var hN hv) (pa_cons hc pa_nil he2) he) (by decide) (by decide) he hpl) ?_
  rintro σ H Q ⟨h1, h2⟩
  exact ⟨_, h1, .ref (He.ga X.K x), .ref (He.ga X.K x), _, rfl, fun u r => r, wk.kt x hx, h2⟩
theorem pe_isV (hp : (a, oe) ∈ X.pn) (wk : WOk X.K c) (hz : Zc (.ref (He.ga X.K c)) none oe) (hf : ∃ vs, oe.data = .fields vs) (hN : X.N[0]? = some ("e" : Str)) (hv : Vis X.env.scope "e") (hg : Gl X "isinstance") (hm : X.mg "isinstance" = none) (hg2 : Gl X "ValueError") (hm2 : X.mg "ValueError" = none)
    (he : starEach [.Name "e" p1, .Name "ValueError" p2] X.env = (false, eval (.Name "e" p1) X.env) :: starEach [.Name "ValueError" p2] X.env := by rfl) (he2 : starEach [.Name "ValueError" p2] X.env = (false, eval (.Name "ValueError" p2) X.env) :: starEach [] X.env := by rfl) (hpl : (backTo pos (starEach [.Name "ValueError" p2] X.env)).any (·.1) = false := by rfl) :
    PE X (.Call (.Name "isinstance" p) [.Name "e" p1, .Name "ValueError" p2] [] pos) (tB a true) := by
  have hc : PE X (.Name "ValueError" p2) (tC (.ty "ValueError")) := pe_bltn (v := .ty "ValueError") hg2 hm2 PyProof.Rows.Boot.«ValueError» rfl (by decide) (by decide)
  refine PE.imp (pe_callB (call_isP hp wk.ex hz hf) hg hm PyProof.Rows.boot_isinstance (pa_cons (pe_var hN hv) (pa_cons hc pa_nil he2) he) (by decide) (by decide) he hpl) ?_
  rintro σ H Q ⟨h1, h2⟩
  exact ⟨_, h1, .ty "ValueError", .type "ValueError", _, rfl, fun u r => r, wk.ve, h2⟩
end
/-! the body -/
def tWhich (K : PySem.W.Frag) (a : Addr) (l1 l2 l3 l4 : List Bool) : TS :=
  tSeq (tAsg (tLst (tBs a l1)) (gName 1)) (tSeq (tDrop (tBM K "list" rExtend (tVar 1) (tCons (tLst (tBs a l2)) tNil))) (tSeq (tDrop (tBM K "list" rExtend (tVar 1) (tCons (tLst (tBs a l3)) tNil))) (tSeq (tDrop (tBM K "list" rExtend (tVar 1) (tCons (tLst (tBs a l4)) tNil)))
    (tSeq (tIfS (tOr (tTest (tOp rNe (tBM K "list" (rCntF K) (tVar 1) (tCons (tC (.bl true)) tNil)) (tC (.int 1)))) (tNot (tTest (tB a true)))) (tRet (tTup (tCons (tC (.str "raised")) (tCons (tUn (rU fun i => .int (-i)) (tC (.int 1))) tNil)))) tNext)
      (tRet (tTup (tCons (tC (.str "raised")) (tCons (tBM K "list" (rIndex K) (tVar 1) (tCons (tC (.bl true)) tNil)) tNil))))))))
/-- what _law_which promises of the exception at a: its number k -/
def spW (a : Addr) (k : Nat) : Sp := fun vs H Q _ => vs = [.ref a] ∧ ∀ T H', Le H H' → H T = none → H' T = some (.tup [.str "raised", .int k]) → Q (.ref T) H'
theorem eqV_bl (b : Bool) : eqV (.bl b) (.bl true) = b := by cases b <;> rfl
theorem cnt_bl : ∀ l : List Bool, (l.map V.bl).countP (fun z => eqV z (.bl true)) = l.countP id
  | [] => rfl
  | b :: l => by rw [List.map_cons, List.countP_cons, List.countP_cons, cnt_bl l, eqV_bl]; rfl
theorem flat_bl (l : List Bool) : (l.map V.bl).all flatV = true := by
  rw [List.all_map, List.all_eq_true]
  intro _ _
  rfl
theorem which_run {K : PySem.W.Frag} {a : Addr} {k : Nat} {l1 l2 l3 l4 : List Bool} {H : Hp} {Q : VK} {E : XK} {vs : List V} (hs : spW a k vs H Q E) (hl : (l1 ++ l2 ++ l3 ++ l4).length ≤ 60) (hc : (l1 ++ l2 ++ l3 ++ l4).countP id = 1) (hk : (l1 ++ l2 ++ l3 ++ l4)[k]? = some true)
    (hn : ∀ m, m < k → (l1 ++ l2 ++ l3 ++ l4)[m]? = some false) : tWhich K a l1 l2 l3 l4 { nx := fun _ H' => Q .non H', rt := Q } (L2.start ["e", "own"] vs) H := by
  obtain ⟨rfl, q⟩ := hs
  have sl : sizeLine ≥ 100 := by decide
  simp only [List.length_append] at hl
  have h0 : ∀ (z : Option V), ([some (V.ref a), z] : L2.St)[0]? = some (some (.ref a)) := fun _ => rfl
  show tSeq _ _ _ ([some (V.ref a), none] : L2.St) H
  refine tBs_run (h0 _) l1 ⟨by rw [List.length_map]; omega, fun p1 n1 => ?_⟩
  show tSeq _ _ _ ([some (V.ref a), some (.ref p1)] : L2.St) (upd H p1 (.lst (l1.map V.bl)))
  refine ⟨.ref p1, rfl, .inl ⟨rfl, _, SqL.of upd_same⟩, ?_⟩
  refine tBs_run (h0 _) l2 ⟨by rw [List.length_map]; omega, fun p2 n2 => ?_⟩
  have ne2 : p1 ≠ p2 := fun z => by subst z; rw [upd_same] at n2; cases n2
  refine ⟨p1, p2, _, _, rfl, rfl, by rw [upd_ne ne2, upd_same], upd_same, by rw [List.length_map, List.length_map]; omega, ?_⟩
  rw [← List.map_append]
  generalize hH2 : upd (upd (upd H p1 (.lst (l1.map V.bl))) p2 (.lst (l2.map V.bl))) p1 (.lst ((l1 ++ l2).map V.bl)) = H2
  have g2 : H2 p1 = some (.lst ((l1 ++ l2).map V.bl)) := by rw [← hH2, upd_same]
  have k2 : Le H H2 := by
    intro b o e
    have b1 : b ≠ p1 := ne_of_none e n1
    have b2 : b ≠ p2 := ne_of_none e (by rw [upd_ne (Ne.symm ne2)] at n2; exact n2)
    rw [← hH2, upd_ne b1, upd_ne b2, upd_ne b1]
    exact e
  show tSeq _ _ _ ([some (V.ref a), some (.ref p1)] : L2.St) H2
  refine ⟨.ref p1, rfl, .inl ⟨rfl, _, SqL.of g2⟩, ?_⟩
  refine tBs_run (h0 _) l3 ⟨by rw [List.length_map]; omega, fun p3 n3 => ?_⟩
  have ne3 : p1 ≠ p3 := fun z => by subst z; rw [g2] at n3; cases n3
  refine ⟨p1, p3, _, _, rfl, rfl, by rw [upd_ne ne3]; exact g2, upd_same, by rw [List.length_map, List.length_map, List.length_append]; omega, ?_⟩
  rw [← List.map_append]
  generalize hH3 : upd (upd H2 p3 (.lst (l3.map V.bl))) p1 (.lst ((l1 ++ l2 ++ l3).map V.bl)) = H3
  have g3 : H3 p1 = some (.lst ((l1 ++ l2 ++ l3).map V.bl)) := by rw [← hH3, upd_same]
  have k3 : Le H H3 := by
    intro b o e
    have b1 : b ≠ p1 := ne_of_none e n1
    have b3 : b ≠ p3 := ne_of_none (k2 b o e) n3
    rw [← hH3, upd_ne b1, upd_ne b3]
    exact k2 b o e
  show tSeq _ _ _ ([some (V.ref a), some (.ref p1)] : L2.St) H3
  refine ⟨.ref p1, rfl, .inl ⟨rfl, _, SqL.of g3⟩, ?_⟩
  refine tBs_run (h0 _) l4 ⟨by rw [List.length_map]; omega, fun p4 n4 => ?_⟩
  have ne4 : p1 ≠ p4 := fun z => by subst z; rw [g3] at n4; cases n4
  refine ⟨p1, p4, _, _, rfl, rfl, by rw [upd_ne ne4]; exact g3, upd_same, by rw [List.length_map, List.length_map, List.length_append, List.length_append]; omega, ?_⟩
  rw [← List.map_append]
  generalize hH4 : upd (upd H3 p4 (.lst (l4.map V.bl))) p1 (.lst ((l1 ++ l2 ++ l3 ++ l4).map V.bl)) = H4
  have g4 : H4 p1 = some (.lst ((l1 ++ l2 ++ l3 ++ l4).map V.bl)) := by rw [← hH4, upd_same]
  have k4 : Le H H4 := by
    intro b o e
    have b1 : b ≠ p1 := ne_of_none e n1
    have b4 : b ≠ p4 := ne_of_none (k3 b o e) n4
    rw [← hH4, upd_ne b1, upd_ne b4]
    exact k3 b o e
  generalize l1 ++ l2 ++ l3 ++ l4 = l at g4 hc hk hn
  show tSeq _ _ _ ([some (V.ref a), some (.ref p1)] : L2.St) H4
  refine ⟨.ref p1, rfl, .inl ⟨rfl, _, SqL.of g4⟩, p1, _, .bl true, rfl, rfl, SqL.of g4, rfl, flat_bl l, ?_⟩
  rw [cnt_bl, hc]
  refine ⟨rfl, false, rfl, ?_⟩
  refine ⟨rfl, true, rfl, ?_⟩
  dsimp only
  rw [if_neg (by decide)]
  refine ⟨.ref p1, rfl, .inl ⟨rfl, _, SqL.of g4⟩, p1, _, .bl true, k, .bl true, rfl, rfl, SqL.of g4, rfl, flat_bl l, ?_, rfl, ?_, ?_⟩
  · rw [List.getElem?_map, hk]; rfl
  · intro m z' hm hz
    rw [List.getElem?_map, hn m hm] at hz
    cases hz
    rfl
  · refine ⟨Nat.le_trans (show 2 ≤ 100 by decide) sl, fun T nT => q T _ (fun b o e => ?_) ?_ upd_same⟩
    · rw [upd_ne (ne_of_none (k4 b o e) nT)]
      exact k4 b o e
    · exact k4.none nT
def whichI (c : Str) : Option Nat := clsW.findIdx? fun x => decide (c = x)
def whichL (c : Str) : List Bool := clsW.map fun x => decide (c = x)
theorem which_all : ∀ c ∈ clsW, ∃ k, whichI c = some k ∧ (whichL c).countP id = 1 ∧ (whichL c)[k]? = some true ∧ ∀ m, m < k → (whichL c)[m]? = some false := by
  have h : (clsW.all fun c => match whichI c with
    | some k => ((whichL c).countP id == 1 && (decide ((whichL c)[k]? = some true) && (List.range k).all fun m => decide ((whichL c)[m]? = some false)))
    | none => false) = true := by decide +kernel
  intro c hc
  have h := List.all_eq_true.mp h c hc
  cases q : whichI c with
  | none => rw [q] at h; cases h
  | some k =>
    rw [q] at h
    obtain ⟨h1, h⟩ := He.ba h
    obtain ⟨h2, h3⟩ := He.ba h
    exact ⟨k, rfl, eq_of_beq h1, of_decide_eq_true h2, fun m hm => of_decide_eq_true (List.all_eq_true.mp h3 m (List.mem_range.mpr hm))⟩
theorem which_mem {c : Str} {k : Nat} (h : whichI c = some k) : c ∈ clsW := by
  unfold whichI at h
  obtain ⟨h1, h2, h3⟩ := List.findIdx?_eq_some_iff_getElem.mp h
  have := of_decide_eq_true h2
  rw [this]
  exact List.getElem_mem h1
/-! ### try: .. except FieldError as e: return _law_which(e) -/
/-- _law_which keeps its promise for the classes cs -/
def WhOk (P : Program) (w : World) (K : PySem.W.Frag) (mg : Str → Option Value) (base : Heap) (n : Nat) (cs : List Str) : Prop := ∃ f fd, mg "_law_which" = some (.ref f) ∧ PySem.W.keepIn K (.ref f) = true ∧ Binds K fd ["e"] [] ∧
  ∀ c k, c ∈ cs → whichI c = some k → WOk K c ∧ ∀ a oe, L2N.Zn (.ref (He.ga K c)) none oe → (∃ vs, oe.data = .fields vs) → FnE P w K mg base (L2N.CX P w) n f fd ["e"] (a, oe) (spW a k)
def sTry (i : Nat) (cs : List Str) (g : En → O) : En → O := fun env => match g env with
  | .ex c e => if (decide (c ∈ cs) && Nat.blt i e.length) = true then (match whichI c with
    | some k => .rt (.tuple [.str "raised", .int k]) e
    | none => .bad) else .bad
  | o => o
theorem js_try {X : Cx} {W : WX} {i n : Nat} {cs : List Str} {body : List Stmt} {g : En → O} {np pos pos' p1 p2 p3 p4 : Pos} (wh : WhOk X.prog X.w X.K X.mg X.base n cs) (hr : Room n X.A) (hcl : X.calm = true) (hs : X.stack = X.env :: X.outer) (hf : X.env.frame = some X.env.locals) (hN : X.N.Nodup) (hi : X.N[i]? = some ("e" : Str)) (hln : X.env.kindOf "e" = some .local)
    (hg : Gl X "FieldError") (hm : X.mg "FieldError" = some (.ref (He.ga X.K "FieldError"))) (hgw : Gl X "_law_which") (tk : L2N.Takes X W)
    (hb : ∀ (W' : WX) (pn : List (Addr × Obj)) (xe : Value → Shared → Prop), L2N.Takes (X.tr pn xe) W' → PassesOwn (model X.prog X.w) X.A X.env xe → JB (X.tr pn xe) W' body g)
    (he : starEach [.Name "e" p3] X.env = (false, eval (.Name "e" p3) X.env) :: starEach [] X.env := by rfl) (hpl : (backTo p1 (starEach [] X.env)).any (·.1) = false := by rfl) :
    JS X W (.Try body [.ExceptHandler (some (.Name "FieldError" np)) (some "e") [.Return (some (.Call (.Name "_law_which" p2) [.Name "e" p3] [] p1)) p4] pos'] [] [] pos) (sTry i cs g) := by
  obtain ⟨f, fd, hmw, hkw, hbw, wh⟩ := wh
  have hsu : ∀ (a : Addr) (oe : Obj) (cls : Value) (d : Option Addr) (pn : List (Addr × Obj)), L2N.Zn cls d oe → (∃ vs, oe.data = .fields vs) →
      PSs (X.suite a ((a, oe) :: pn)) [.Return (some (.Call (.Name "_law_which" p2) [.Name "e" p3] [] p1)) p4] (fun D σ H => ∃ c k, c ∈ cs ∧ cls = .ref (He.ga X.K c) ∧ d = none ∧ whichI c = some k ∧ tRet (tCallS (spW a k) (fun _ _ _ _ => False) (tCons (tVar i) tNil)) D σ H) := by
    intro a oe cls d pn hz hfl
    refine ⟨fun pins s σ H D I h => ?_⟩
    obtain ⟨c, k, hc, rfl, rfl, hk, h⟩ := h
    have F := (wh c k hc hk).2 a oe hz hfl
    obtain ⟨vs, hv⟩ := hfl
    have hot : L2H.Hot1 (X.suite a ((a, oe) :: pn)).A (a, oe) := ⟨rfl, vs, hv, hz.2.2 vs hv⟩
    have rm : L2H.RoomH n (X.suite a ((a, oe) :: pn)).A := ⟨hr.dp, hr.un⟩
    have px : ∀ σ : L2.St, PassesAt (L2N.CX X.prog X.w) (X.suite a ((a, oe) :: pn)) σ (fun _ _ _ => False) := fun σ _ _ _ _ _ _ z => by
      obtain ⟨_, _, _, _, _, _, _, _, _, _, _, _, z⟩ := z
      exact z.elim
    exact (pss_one (ps_ret (pe_callE (X := X.suite a ((a, oe) :: pn)) (E := fun _ _ _ _ => False) F rm hot List.mem_cons_self hgw hmw hkw hbw px (pa_cons (pe_var (i := i) hi (.inl hln)) pa_nil he) (by decide) he hpl))).run pins s σ H D I h
  refine PS.imp (L2N.ps_try_as (tb := fun W' => tS X.K W' g) hs hf hN hi hln ⟨hg, by decide, .inl hm⟩ tk hb hsu) fun D σ H h => ?_
  obtain ⟨B, F, env, S, h⟩ := h
  refine ⟨B, F, env, S, ?_⟩
  unfold sTry at h
  cases q : g env with
  | nx e => rw [q] at h; exact h
  | rt d e => rw [q] at h; exact h
  | bk e => rw [q] at h; exact h
  | ct e => rw [q] at h; exact h
  | bad => rw [q] at h; exact h
  | ex c e =>
    rw [q] at h
    simp only at h
    split at h
    · rename_i hc
      rw [Bool.and_eq_true] at hc
      have hle := Nat.blt_eq.mp hc.2
      have hc := of_decide_eq_true hc.1
      cases q2 : whichI c with
      | none => rw [q2] at h; exact h.elim
      | some k =>
        rw [q2] at h
        intro σ' H' F' l' S'
        refine ⟨true, (wh c k hc q2).1.fe, fun _ a na => ⟨c, k, hc, rfl, rfl, q2, ?_⟩, fun z => nomatch z⟩
        have hlen : i < σ'.length := by rw [S'.len]; exact hle
        refine ⟨.ref a, by rw [List.getElem?_set_self hlen], rfl, fun T H2 lH nT hT => ?_⟩
        have nF : F' T = none := S'.fh.none nT
        have S2 : SR X.K B (upd F' T (.tup [.str "raised", .int k])) e σ' H2 := S'.grow (Le.upd nF) lH (fun b o eb => by
          by_cases z : b = T
          · subst z; rw [upd_same] at eb; cases eb; exact hT
          · rw [upd_ne z] at eb; exact lH b o (S'.fh b o eb)) (fun b o eb => by
          by_cases z : b = T
          · subst z; exact .inr nT
          · rw [upd_ne z] at eb; exact .inl eb)
        exact h (.ref T) σ' H2 _ (l'.trans (Le.upd nF)) S2 (.tup (SqT.of upd_same) (.cons (.str _) (.cons (.int _) .nil)))
    · exact h.elim
end Pf
namespace Pf
open PySem PySem.Spec PyProof.Rows L2
/-! ### [f, g, ..][i](e, ..) -/
inductive FnsX (X : Cx) (k n : Nat) : List Expr → List (List D → Rf) → List V → Prop
  | nil : FnsX X k n [] [] []
  | cons {x : Str} {p : Pos} {m : List D → Rf} {es : List Expr} {ms : List (List D → Rf)} {vs : List V} {f : Addr} {fd : FuncData} {ps : List Str} : Gl X x → (x == ("__debug__" : Str)) = false → X.mg x = some (.ref f) → PySem.W.keepIn X.K (.ref f) = true → Binds X.K fd ps [] →
      FnOk X.prog X.w X.K X.mg X.base (L2N.CX X.prog X.w) k f fd ps (spP X.K n m) → starEach (.Name x p :: es) X.env = (false, eval (.Name x p) X.env) :: starEach es X.env → FnsX X k n es ms vs → FnsX X k n (.Name x p :: es) (m :: ms) (.ref f :: vs)
theorem FnOk.mono {P : Program} {w : World} {K : PySem.W.Frag} {mg : Str → Option Value} {base : Heap} {C : CXT} {j k : Nat} {f : Addr} {fd : FuncData} {ps : List Str} {sp : Sp} (F : FnOk P w K mg base C j f fd ps sp) (h : j ≤ k) : FnOk P w K mg base C k f fd ps sp :=
  ⟨F.len, fun A outer s H ar us vs Q E hr => F.run A outer s H ar us vs Q E (hr.mono h)⟩
theorem fns_nil {X : Cx} {k n : Nat} : ∃ vs, FnsX X k n [] [] vs := ⟨_, .nil⟩
theorem fns_cons {X : Cx} {j k n : Nat} {x : Str} {p : Pos} {m : List D → Rf} {es : List Expr} {ms : List (List D → Rf)} (F : FnX X j x (spP X.K n m)) (hg : Gl X x) (hj : j ≤ k) (h : ∃ vs, FnsX X k n es ms vs) (hd : (x == ("__debug__" : Str)) = false := by decide)
    (he : starEach (.Name x p :: es) X.env = (false, eval (.Name x p) X.env) :: starEach es X.env := by rfl) : ∃ vs, FnsX X k n (.Name x p :: es) (m :: ms) vs := by
  obtain ⟨f, fd, ps, F, hm, hk, hb⟩ := F
  obtain ⟨vs, h⟩ := h
  exact ⟨_, .cons hg hd hm hk hb (FnOk.mono F hj) he h⟩
theorem FnsX.pa {X : Cx} {k n : Nat} : ∀ {es : List Expr} {ms : List (List D → Rf)} {vs : List V}, FnsX X k n es ms vs → PA X es (fun _ H Q => Q vs H)
  | _, _, _, .nil => pa_nil
  | _, _, _, @FnsX.cons _ _ _ x _ _ _ _ vs f _ _ hg hd hm _ _ _ he h => PA.imp (pa_cons (pe_glob (v := .ref f) hg hm rfl hd) h.pa he) fun _ _ _ q => q
theorem FnsX.len {X : Cx} {k n : Nat} : ∀ {es : List Expr} {ms : List (List D → Rf)} {vs : List V}, FnsX X k n es ms vs → vs.length = ms.length
  | _, _, _, .nil => rfl
  | _, _, _, .cons _ _ _ _ _ _ _ h => by rw [List.length_cons, List.length_cons, h.len]
theorem FnsX.get {X : Cx} {k n : Nat} : ∀ {es : List Expr} {ms : List (List D → Rf)} {vs : List V} {i : Nat} {m : List D → Rf}, FnsX X k n es ms vs → ms[i]? = some m → ∃ f fd ps, vs[i]? = some (.ref f) ∧ PySem.W.keepIn X.K (.ref f) = true ∧ Binds X.K fd ps [] ∧ FnOk X.prog X.w X.K X.mg X.base (L2N.CX X.prog X.w) k f fd ps (spP X.K n m)
  | _, _, _, _, _, .nil, h => by simp at h
  | _, _, _, 0, _, @FnsX.cons _ _ _ _ _ _ _ _ _ f fd ps _ _ _ hk hb F _ _, h => by
    simp at h
    subst h
    exact ⟨f, fd, ps, rfl, hk, hb, F⟩
  | _, _, _, i + 1, m, .cons _ _ _ _ _ _ _ r, h => by
    obtain ⟨f, fd, ps, q⟩ := r.get (i := i) (m := m) (by simpa using h)
    exact ⟨f, fd, ps, by simpa using q⟩
def ePick (n : Nat) (ms : List (List D → Rf)) (fb : M Vd) (fa : M (List Vd)) : M Vd := fun env => (fb env).bnd fun y e => match rd e y with
  | some (.int i) => (match atI ms i with
    | some m => eCall (Ar n m) fa e
    | none => .bad)
  | _ => .bad
section
variable {X : Cx} {W : WX} {k n : Nat} {fs : List Expr} {ms : List (List D → Rf)} {b e : Expr} {es : List Expr} {fb : M Vd} {fa : M (List Vd)} {p1 p2 pos : Pos}
theorem je_pick (F : ∃ vs, FnsX X k n fs ms vs) (hl : ms.length ≤ 100) (hr : Room k X.A) (tk : L2N.Takes X W) (hb : JE X W b fb) (ha : JA X W (e :: es) fa) (hs : PlainIx b := by exact fun _ _ => rfl)
    (he : starEach (e :: es) X.env = (false, eval e X.env) :: starEach es X.env := by rfl) (hpl : (backTo pos (starEach es X.env)).any (·.1) = false := by rfl)
    (hev : eval (.Call (.Subscript (.List fs p1) b p2) (e :: es) [] pos) X.env = (do callWith pos (← eval (.Subscript (.List fs p1) b p2) X.env) [] (backTo pos (starEach (e :: es) X.env)) (backToKw pos (keywordEach [] X.env))) := by rfl) :
    JE X W (.Call (.Subscript (.List fs p1) b p2) (e :: es) [] pos) (ePick n ms fb fa) := by
  obtain ⟨vs, F⟩ := F
  have hf := pe_ix (pos := p2) ix_seq (pe_lst (pos := p1) F.pa) hb hs
  refine ⟨fun pins s σ H Q I h => ?_⟩
  obtain ⟨B, F0, env, S, h⟩ := h
  rw [hev]
  refine wpAny_bind (thn (hf.run pins s σ H (fun v H1 => ∃ m f fd ps F1 e1, v = .ref f ∧ PySem.W.keepIn X.K (.ref f) = true ∧ Binds X.K fd ps [] ∧ FnOk X.prog X.w X.K X.mg X.base (L2N.CX X.prog X.w) k f fd ps (spP X.K n m) ∧ Le F0 F1 ∧ SR X.K B F1 e1 σ H1 ∧ Rs (eCall (Ar n m) fa e1) (fun vd e => ∀ v H' F', Le F0 F' → SR X.K B F' e σ H' → VR X.K F' σ v vd → Q v H') (xW W X.K B F0 σ)) I ?_) ?_)
  · refine ⟨by rw [F.len]; exact Nat.le_trans hl (by decide), fun pl np => ?_⟩
    have S1 : SR X.K B F0 env σ (upd H pl (.lst vs)) := S.beside np
    have hpl' : (upd H pl (.lst vs)) pl = some (.lst vs) := upd_same
    have nF : F0 pl = none := S.fh.none np
    -- the list of defs stays while the index is read
    have S2 := S1.addH hpl' nF (S.noFt np).upd
    have nH0 : B.H0 pl = none := S.same.none np
    have nF0 : B.F0 pl = none := S.f0.none nF
    have hh := Rs.bnd h
    have hx : Rs (fb env) (fun y e => Rs ((fun y e => match rd e y with
      | some (.int i) => (match atI ms i with
        | some m => eCall (Ar n m) fa e
        | none => .bad)
      | _ => .bad) y e) (fun vd e => ∀ v H' F', Le F0 F' → SR X.K B F' e σ H' → VR X.K F' σ v vd → Q v H') (xW W X.K B F0 σ)) (xW W X.K { B with H0 := upd B.H0 pl (.lst vs) } F0 σ) := by
      cases q : fb env with
      | ok x e => rw [q] at hh; exact hh
      | bad => rw [q] at hh; exact hh
      | exc cc e =>
        rw [q] at hh
        intro H' F' l' S'
        exact hh H' F' l' (S'.delH nH0 nF0).1
    refine tE_in S2 .refl hx fun y e1 v H1 F1 l1 S3 r1 h1 => ?_
    obtain ⟨S4, hp4, _, _⟩ := S3.delH nH0 nF0
    dsimp only at h1
    cases q1 : rd e1 y with
    | none => rw [q1] at h1; exact h1.elim
    | some d =>
      rw [q1] at h1
      cases d with
      | int i =>
        simp only at h1
        have t := S4.tp r1 q1
        cases t
        cases q2 : atI ms i with
        | none => rw [q2] at h1; exact h1.elim
        | some m =>
          rw [q2] at h1
          unfold atI at q2
          cases q3 : ixN ms.length i with
          | none => rw [q3] at q2; cases q2
          | some j =>
            rw [q3] at q2
            obtain ⟨f, fd, ps, g1, g2, g3, g4⟩ := F.get (i := j) (m := m) q2
            refine .inl ⟨pl, vs, i, .ref f, rfl, rfl, SqL.of hp4, ?_, m, f, fd, ps, F1, e1, rfl, g2, g3, g4, l1, S4, h1⟩
            unfold atI
            rw [F.len, q3]
            exact g1
      | _ => exact h1.elim
  · rintro u s1 ⟨x, H1, I1, r1, m, f, fd, ps, F1, e1, rfl, hk, hbi, Fm, l1, S1, h1⟩
    cases r1
    have hc : tCallS (spP X.K n (Ar n m)) (WE W) (tA X.K W fa) σ H1 Q := call_in (n := n) ⟨B, F1, e1, S1, h1.mono (fun vd e q v H' F' l' S' r => q v H' F' (l1.trans l') S' r) (fun c e q => xW.mono l1 q)⟩ fun xs ds e e' q hb => ar_len q hb
    refine PySem.W.callWith_K (h₀ := X.base) I1.ok.mod.kin hk (thn (ha.run pos pins s1 σ H1 _ I1 hc) ?_) he hpl
    rintro us s2 ⟨ws, H2, I2, r2, q2⟩
    exact ⟨I2.kIn, run_fnS (fnAr Fm) hr hbi (L2N.passAt tk σ) I2 r2 q2⟩
end
/-! ### list.count, of flat things -/
def gCnt : List D → D → Option D := fun ds d => if (flatD d && ds.all flatD) = true then some (.int (ds.countP fun z => PyData.eqv z d : Nat)) else none
def eCnt (i : Nat) (f : M Vd) : M Vd := fun env => match rd env (.sl i) with
  | some (.list _) => (f env).bnd fun x e => (match rd e (.sl i), rd e x with
    | some (.list ds), some d => (match gCnt ds d with
      | some r => .ok (.dat r) e
      | none => .bad)
    | _, _ => .bad)
  | _ => .bad
theorem cnt_flat {K : PySem.W.Frag} {F : Hp} {v : V} {d : D} (h : Dq K F v d) (f : flatD d = true) : ∀ {vs : List V} {ds : List D}, DqAll K F vs ds → ds.all flatD = true → (vs.countP fun z => eqV z v) = ds.countP fun z => PyData.eqv z d
  | _, _, .nil, _ => rfl
  | _, _, .cons a b, g => by
    rw [List.all_cons, Bool.and_eq_true] at g
    rw [List.countP_cons, List.countP_cons, cnt_flat h f b g.2, eq_flat a h g.1 f]
theorem je_cnt {X : Cx} {W : WX} {i : Nat} {x : Str} {a : Expr} {f : M Vd} {p pos apos : Pos} (hN : X.N[i]? = some x) (hv : Vis X.env.scope x) (ha : JE X W a f) (hbase : attributeBase (.Name x p) "count" X.env (eval (.Name x p) X.env) = eval (.Name x p) X.env := by rfl)
    (hfew : ((backTo pos (starEach [a] X.env)).all (fun x => !x.1) && (backToKw pos (keywordEach [] X.env)).all (fun x => x.1.isSome) && decide ([a].length + ([] : List Keyword).length + (if ([] : List Keyword).isEmpty then 0 else 1) < 30)) = true := by rfl)
    (hline : (apos.endLine == pos.line) = true := by rfl) (hs : starEach [a] X.env = (false, eval a X.env) :: starEach [] X.env := by rfl) (hpl : (backTo pos (starEach [] X.env)).any (·.1) = false := by rfl) (hd : (x == ("__debug__" : Str)) = false := by decide) (hcd : (x == ("__classdict__" : Str)) = false := by decide) :
    JE X W (.Call (.Attribute (.Name x p) "count" apos) [a] [] pos) (eCnt i f) := by
  refine PE.imp (pe_bm PySem.F.plainAttrs_list PySem.F.slot_list_count PySem.F.type_list_count mt_cntF (pe_var (i := i) hN hv hd hcd) (pa_cons ha pa_nil hs) hbase hfew hline hs hpl) fun σ H Q h => ?_
  obtain ⟨B, F, env, S, h⟩ := h
  unfold eCnt at h
  split at h
  · rename_i ds0 q0
    -- the slot's value
    have hσ : ∃ v, σ[i]? = some (some v) := by
      unfold rd at q0
      simp only at q0
      cases q : env[i]? with
      | none => rw [q] at q0; cases q0
      | some s =>
        obtain ⟨w, g1, g2⟩ := S.sl i s q
        rw [q] at q0
        cases s with
        | no => cases q0
        | sc _ => cases q0
        | ob _ _ => cases q0
        | va d => obtain ⟨y, rfl, _⟩ := g2; exact ⟨y, g1⟩
        | ow b ds => obtain ⟨y, _, rfl, _⟩ := g2; exact ⟨_, g1⟩
    obtain ⟨v, hσ⟩ := hσ
    have t0 := S.tp (v := v) (vd := .sl i) hσ q0
    cases t0 with
    | @lst ad xs0 _ g1 g2 =>
      refine ⟨.ref ad, hσ, .inl ⟨rfl, xs0, SqL.of g1⟩, ?_⟩
      refine tE_in S .refl h.bnd fun x1 e1 u H1 F1 l1 S1 r1 h1 => ?_
      split at h1
      · rename_i ds1 d1 q1 q2
        have t1 := S1.tp (v := .ref ad) (vd := .sl i) hσ q1
        have t2 := S1.tp r1 q2
        cases t1 with
        | @lst _ xs1 _ k1 k2 =>
          unfold gCnt at h1
          split at h1
          · rename_i r0 q3
            split at q3
            · rename_i fl
              cases q3
              rw [Bool.and_eq_true] at fl
              have dd := t2.flat fl.1
              refine ⟨ad, xs1, u, rfl, rfl, SqL.of k1, flat_v dd fl.1, flat_all k2 fl.2, ?_⟩
              rw [cnt_flat dd fl.1 k2 fl.2]
              exact h1 _ H1 F1 l1 S1 (.int _)
            · cases q3
          · exact h1.elim
      · exact h1.elim
  · exact h.elim
/-! ### a, b = [..], [..]: both lists of one's own -/
def sParO (i j : Nat) (f1 f2 : M (List D)) : En → O := fun env => (f1 env).o fun ds e => (f2 e).o fun es e => .nx ((e.set i (.ow false ds)).set j (.ow false es))
theorem js_parO {X : Cx} {W : WX} {a b : Expr} {i j : Nat} {x y : Str} {pos : Pos} {f1 f2 : M (List D)} {px py pt : Pos} {kt k2 pt2} (hc : X.calm = true) (hN : X.N.Nodup) (hi : X.N[i]? = some x) (hj : X.N[j]? = some y) (hij : i ≠ j)
    (hx : X.env.scope.names.lookup x = some .local) (hy : X.env.scope.names.lookup y = some .local) (h1 : JN X W a f1) (h2 : JN X W b f2)
    (hw : swappedStores [.Tuple [.Name x px, .Name y py] kt pt] (.Tuple [a, b] k2 pt2) X.env = pure (some [x, y])) (hs : swapsWithSole [.Tuple [.Name x px, .Name y py] kt pt] (.Tuple [a, b] k2 pt2) pos.line X.env = pure false := by rfl)
    (s1 : starEach [a, b] X.env = (false, eval a X.env) :: starEach [b] X.env := by rfl) (s2 : starEach [b] X.env = (false, eval b X.env) :: starEach [] X.env := by rfl) :
    JS X W (.Assign [.Tuple [.Name x px, .Name y py] kt pt] (.Tuple [a, b] k2 pt2) pos) (sParO i j f1 f2) := by
  refine PS.imp (ps_par hc hN hi hj hij hx hy (pa_cons h1 (pa_cons h2 pa_nil s2) s1) hw hs) fun D σ H h => ?_
  obtain ⟨B, F, env, S, h⟩ := h
  show tN X.K W f1 σ H fun x H1 => tN X.K W f2 σ H1 fun y H2 => ∃ v w, [x, y] = [v, w] ∧ D.nx ((σ.set i (some v)).set j (some w)) H2
  refine tN_in S .refl h.r fun ds e1 p H1 F1 l1 S1 fr h1 => ?_
  obtain ⟨vs, g1, g2⟩ := fr.at_
  have nF0 : B.F0 p = none := S1.f0.none fr.nF
  have S1' := S1.addH g1 fr.nF fr.ns
  have h1' : Rs (f2 e1) (fun es e => Os (O.nx ((e.set i (.ow false ds)).set j (.ow false es))) (nS X.K B F D.nx) (rS X.K B F D.rt) (xS W X.K B F) (nS X.K B F D.bk) (nS X.K B F D.ct)) (xW W X.K { B with H0 := upd B.H0 p (.lst vs) } F1 σ) := by
    cases q : f2 e1 with
    | ok x e => rw [q] at h1; exact h1
    | bad => rw [q] at h1; exact h1
    | exc cc e =>
      rw [q] at h1
      intro H' F' l' S'
      exact h1 σ H' F' (l1.trans l') (S'.delH fr.nH nF0).1
  refine tN_in S1' .refl h1' fun es e2 p2 H2 F2 l2 S2 fr2 h2 => ?_
  obtain ⟨ws, k1, k2'⟩ := fr2.at_
  have nH2 : upd B.H0 p (.lst vs) p2 = none := fr2.nH
  have np : p2 ≠ p := fun z => by subst z; rw [upd_same] at nH2; cases nH2
  rw [upd_ne np] at nH2
  obtain ⟨S4, hp, nF, ns⟩ := S2.delH fr.nH nF0
  have S5 := S4.setOw i hp nF fr.nH (l2.dqAll g2) ns
  have S6 := S5.setOw j k1 fr2.nF nH2 k2' (NoFt.setOw S4.len fr2.ns np)
  exact ⟨.ref p, .ref p2, rfl, h2 _ H2 F2 (l1.trans l2) S6⟩
/-- the same through a tuple (names that a comprehension reads) -/
theorem js_asgO {X : Cx} {W : WX} {a b tg : Expr} {i j : Nat} {pos : Pos} {f1 f2 : M (List D)} {k2 pt2} (hij : i ≠ j) (hg : PG X tg (gTup X.K 2 (gCons (gName i) (gCons (gName j) gNil)))) (h1 : JN X W a f1) (h2 : JN X W b f2)
    (hw : swappedStores [tg] (.Tuple [a, b] k2 pt2) X.env = pure none := by rfl) (hs : swapsWithSole [tg] (.Tuple [a, b] k2 pt2) pos.line X.env = pure false := by rfl) (h3 : (assignEach [tg] X.env).map (·.2) = [assign tg X.env] := by rfl)
    (s1 : starEach [a, b] X.env = (false, eval a X.env) :: starEach [b] X.env := by rfl) (s2 : starEach [b] X.env = (false, eval b X.env) :: starEach [] X.env := by rfl) :
    JS X W (.Assign [tg] (.Tuple [a, b] k2 pt2) pos) (sParO i j f1 f2) := by
  refine PS.imp (ps_asg (pe_tup (pa_cons h1 (pa_cons h2 pa_nil s2) s1)) hg hs hw h3) fun D σ H h => ?_
  obtain ⟨B, F, env, S, h⟩ := h
  show tN X.K W f1 σ H fun x H1 => tN X.K W f2 σ H1 fun y H2 => [x, y].length ≤ sizeLine ∧ ∀ T, H2 T = none → gTup X.K 2 (gCons (gName i) (gCons (gName j) gNil)) (.ref T) σ (upd H2 T (.tup [x, y])) D.nx
  refine tN_in S .refl h.r fun ds e1 p H1 F1 l1 S1 fr h1 => ?_
  obtain ⟨vs, g1, g2⟩ := fr.at_
  have nF0 : B.F0 p = none := S1.f0.none fr.nF
  have S1' := S1.addH g1 fr.nF fr.ns
  have h1' : Rs (f2 e1) (fun es e => Os (O.nx ((e.set i (.ow false ds)).set j (.ow false es))) (nS X.K B F D.nx) (rS X.K B F D.rt) (xS W X.K B F) (nS X.K B F D.bk) (nS X.K B F D.ct)) (xW W X.K { B with H0 := upd B.H0 p (.lst vs) } F1 σ) := by
    cases q : f2 e1 with
    | ok x e => rw [q] at h1; exact h1
    | bad => rw [q] at h1; exact h1
    | exc cc e =>
      rw [q] at h1
      intro H' F' l' S'
      exact h1 σ H' F' (l1.trans l') (S'.delH fr.nH nF0).1
  refine tN_in S1' .refl h1' fun es e2 p2 H2 F2 l2 S2 fr2 h2 => ?_
  refine ⟨Nat.le_trans (show 2 ≤ 10000 by decide) (by decide), fun T nT => ⟨T, _, rfl, SqT.of upd_same, rfl, .ref p, _, rfl, .ref p2, _, rfl, rfl, ?_⟩⟩
  obtain ⟨ws, k1, k2'⟩ := fr2.at_
  have nH2 : upd B.H0 p (.lst vs) p2 = none := fr2.nH
  have np : p2 ≠ p := fun z => by subst z; rw [upd_same] at nH2; cases nH2
  rw [upd_ne np] at nH2
  obtain ⟨S4, hp, nF, ns⟩ := S2.delH fr.nH nF0
  have S4' := S4.beside (o := .tup [.ref p, .ref p2]) nT
  have S5 := S4'.setOw i (by rw [upd_ne (ne_of_none hp nT)]; exact hp) nF fr.nH (l2.dqAll g2) (S4.noFtLe (Le.upd nT) ns)
  have S6 := S5.setOw j (by rw [upd_ne (ne_of_none k1 nT)]; exact k1) fr2.nF nH2 k2' (NoFt.setOw S4.len (S4.noFtLe (Le.upd nT) fr2.ns) np)
  exact h2 _ _ F2 (l1.trans l2) S6
end Pf
namespace Pf
open PySem PySem.Spec PyProof.Rows L2
/-! ### x[::-1] of a list or a tuple -/
section
variable {prog : Program} {w : World} {A : Around} {E : Value → Shared → Prop} {s : Shared}
theorem adjR (n : Nat) : Builtin.Slice.sliceAdjust none none (-1) (n : Int) = ((n : Int) - 1, -1) := by
  unfold Builtin.Slice.sliceAdjust
  simp
theorem plcR (n : Nat) : Builtin.Slice.slicePlaces ((n : Int) - 1) (-1) (-1) = n := by
  unfold Builtin.Slice.slicePlaces
  have h1 : ¬ ((-1 : Int) > 0) := by omega
  simp only [h1, if_false]
  by_cases h : (n : Int) - 1 > -1
  · simp [h] <;> omega
  · simp [h] <;> omega
theorem pickR (xs : Array Value) : ((List.range xs.size).filterMap fun (m : Nat) => xs[(((xs.size : Int) - 1) + (m : Int) * (-1)).toNat]?).toArray = xs.toList.reverse.toArray := by
  congr 1
  have h : ∀ m ∈ List.range xs.size, xs[(((xs.size : Int) - 1) + (m : Int) * (-1)).toNat]? = xs.toList.reverse[m]? := by
    intro m hm
    have hm := List.mem_range.mp hm
    have e : (((xs.size : Int) - 1) + (m : Int) * (-1)).toNat = xs.size - 1 - m := by omega
    rw [e, List.getElem?_reverse (by simpa using hm)]
    simp
  have e2 : (List.range xs.size).filterMap (fun (m : Nat) => xs[(((xs.size : Int) - 1) + (m : Int) * (-1)).toNat]?) = (List.range xs.size).filterMap (fun m => xs.toList.reverse[m]?) := by
    revert h
    generalize List.range xs.size = l
    intro h
    induction l with
    | nil => rfl
    | cons a l ih =>
      rw [List.filterMap_cons, List.filterMap_cons, h a (by simp), ih fun m hm => h m (by simp [hm])]
  rw [e2]
  have e3 : ∀ l : List Value, (List.range l.length).filterMap (fun m => l[m]?) = l := by
    intro l
    induction l with
    | nil => rfl
    | cons a l ih =>
      rw [List.length_cons, List.range_succ_eq_map, List.filterMap_cons]
      simp only [List.getElem?_cons_zero, List.filterMap_map]
      congr 1
  have := e3 xs.toList.reverse
  rw [List.length_reverse, Array.length_toList] at this
  exact this
theorem tupRev {t sl : Addr} {items : Array Value} {vl vu vs : Value} {Q : Value → Shared → Prop} (ht : IsTup s.heap t items) (hs : s.heap.IsSliceOf sl vl vu vs) (pl : IsPart vl none) (pu : IsPart vu none) (ps : IsPart vs (some (-1)))
    (h : Q (.ref s.heap.objs.size) { s with heap := s.heap.push { cls := .type "tuple", data := .seq items.toList.reverse.toArray } }) (hz : items.size ≤ sizeLine) : wpAny (model prog w) A (getItem (.ref t) (.ref sl)) Q E s := by
  obtain ⟨os, hos, hcs, hds⟩ := id hs
  have ts : s.TypeIs (.ref sl) "slice" := ⟨os, hos, hcs⟩
  have sz : sizeOk (.seq items.toList.reverse.toArray) := by
    show items.toList.reverse.toArray.size ≤ sizeLine
    rw [List.size_toArray, List.length_reverse, Array.length_toList]
    exact hz
  unfold getItem
  try with_reducible refine wpAny_holding ?_
  refine wpAny_bind (wpAny_sequenceKey ht.typeIs (by decide) (wpAny_bind ?_))
  refine wpAny_callSpecial?_slot (name := Str.ofString "__getitem__") ht.typeIs PyProof.Rows.slot_tuple_getitem (wpAny_call_entry PyProof.Rows.slot_tuple_getitem ht.typeIs entry_tuple_getitem ?_ (args_tuple_getitem _ _))
  show wpAny _ _ (Builtin.Tuple.tupleItemsOf (.ref t) >>= _) _ _ s
  refine wpAny_bind (PyProof.Rows.tupleItemsOf_ ht (wpAny_bind (wpAny_typeOf ts ?_)))
  rw [if_pos (by decide)]
  refine wpAny_bind ?_
  unfold Builtin.Slice.sliceApplied Builtin.Slice.sliceFields
  refine wpAny_bind (wpAny_bind (wpAny_field hos hds (x := vl) rfl (wpAny_bind (wpAny_field hos hds (x := vu) rfl (wpAny_bind (wpAny_field hos hds (x := vs) rfl (wpAny_pure ?_)))))))
  refine wpAny_bind (HT.slicePart_ ps ?_)
  show wpAny _ _ (if ((-1 : Int) == 0) = true then _ else _) _ _ s
  rw [if_neg (by decide)]
  refine wpAny_bind (HT.slicePart_ pl (wpAny_bind (HT.slicePart_ pu (wpAny_bind (wpAny_pure ?_)))))
  show wpAny _ _ (match Builtin.Slice.sliceAdjust none none (-1) (items.size : Int) with | (lo, hi) => pure (lo, (-1 : Int), Builtin.Slice.slicePlaces lo hi (-1))) _ _ s
  rw [adjR]
  show wpAny _ _ (pure ((items.size : Int) - 1, (-1 : Int), Builtin.Slice.slicePlaces ((items.size : Int) - 1) (-1) (-1))) _ _ s
  rw [plcR]
  refine wpAny_pure ?_
  have no : ¬ ((((items.size : Int) - 1) == 0 && (-1 : Int) == 1 && items.size == items.size) = true) := by
    simp
  show wpAny _ _ (if (((items.size : Int) - 1) == 0 && (-1 : Int) == 1 && items.size == items.size) = true then _ else _) _ _ s
  rw [if_neg no, pickR]
  first
    | exact wpAny_bind (m := Builtin.Tuple.tupleExact _) (wpAny_newObj_type (wpAny_pure ⟨_, rfl, wpAny_pure h⟩) sz)
    | exact wpAny_bind (m := Builtin.Tuple.tupleExact _) (wpAny_newObj_type (wpAny_bind (wpAny_pure (wpAny_pure ⟨_, rfl, wpAny_pure h⟩))) sz)
    | exact wpAny_bind (wpAny_bind (m := Builtin.Tuple.tupleExact _) (wpAny_newObj_type (wpAny_pure (wpAny_pure ⟨_, rfl, wpAny_pure h⟩)) sz))
    | exact wpAny_bind (wpAny_bind (m := Builtin.Tuple.tupleExact _) (wpAny_newObj_type (wpAny_pure ⟨_, rfl, wpAny_pure h⟩) sz))
end
section
variable {X : Cx} {W : WX} {a : Expr} {fa : M Vd} {te : TE} {k : Nat} {p1 p2 p3 pos : Pos}
def tRevT (K : PySem.W.Frag) (te : TE) : TE := fun σ H Q => te σ H fun x H1 => ∃ a xs, x = .ref a ∧ SqT K H1 a xs ∧ ∀ p, H1 p = none → Q (.ref p) (upd H1 p (.tup xs.reverse))
/-- the value is a list, or a tuple -/
def tRevA (K : PySem.W.Frag) (te : TE) : TE := fun σ H Q => te σ H fun x H1 => ∃ a xs, x = .ref a ∧ ((SqL K H1 a xs ∧ ∀ p, H1 p = none → Q (.ref p) (upd H1 p (.lst xs.reverse))) ∨ (SqT K H1 a xs ∧ ∀ p, H1 p = none → Q (.ref p) (upd H1 p (.tup xs.reverse))))
theorem pe_revA (he : PE X a te) : PE X (.Subscript a (.Slice none none (some (.UnaryOp .USub (.Constant (.int 1) k p1) p2)) p3) pos) (tRevA X.K te) := by
  refine ⟨fun pins s σ H Q I h => Subscript_ (thn (he.run pins s σ H _ I h) ?_)⟩
  rintro v s1 ⟨x, H1, I1, r1, ad, xs, rfl, q⟩
  cases r1
  have st : PO X (some (.UnaryOp .USub (.Constant (.int 1) k p1) p2)) (tPart (tUn (rU fun i => .int (-i)) (tC (.int 1)))) := po_some (pe_un un_neg pe_int)
  refine wpAny_Slice (thn (po_none.run pins s1 σ H1 (fun o H2 => o = none ∧ H2 = H1) I1 ⟨rfl, rfl⟩) ?_)
  rintro vl s2 ⟨o1, H2, I2, pl, rfl, rfl⟩
  refine thn (po_none.run pins s2 σ H2 (fun o H3 => o = none ∧ H3 = H2) I2 ⟨rfl, rfl⟩) ?_
  rintro vu s3 ⟨o2, H3, I3, pu, rfl, rfl⟩
  refine thn (st.run pins s3 σ H3 (fun o H4 => o = some (-1) ∧ H4 = H3) I3 ⟨1, rfl, -1, rfl, rfl, rfl⟩) ?_
  rintro vs s4 ⟨o3, H4, I4, ps, rfl, rfl⟩
  have I5 : Inv X pins σ H4 { s4 with heap := s4.heap.push { cls := .type "slice", data := .fields #[vl, vu, vs] } } := I4.kept (t' := s4.toks) fun b ob e => Heap.get?_push_of_some _ e
  have sl := Heap.IsSliceOf.new s4.heap vl vu vs
  show wpAny (model X.prog X.w) X.A (subscriptTail a (.Slice none none (some (.UnaryOp .USub (.Constant (.int 1) k p1) p2)) p3) (.ref ad) (.ref s4.heap.objs.size)) (EP X pins σ Q) X.xe { s4 with heap := s4.heap.push { cls := .type "slice", data := .fields #[vl, vu, vs] } }
  rcases q with ⟨hx, q⟩ | ⟨hx, q⟩
  · obtain ⟨its, r, ht, hz⟩ := I5.list hx
    have hlen := r.length
    refine tail_any (ops := [.ref ad, .ref s4.heap.objs.size]) ht.isList.typeIs (PySem.slot_list_getitem.lookup) ?_ (by with_unfolding_all rfl)
    refine wpAny_getItem_list_slice ht.isList sl pl pu ps (by decide) ?_ (by rw [List.size_toArray]; omega)
    rw [PySem.W.krv_pick]
    refine ⟨.ref _, _, I5.laid (t' := s4.toks) (o := .lst xs.reverse) (fun b ob e => Heap.get?_push_of_some _ e) (Nat.le_refl _) ?_, rfl, q _ (I5.hok.fresh (Nat.le_refl _))⟩
    exact ⟨by rw [List.length_reverse]; exact hz, _, 0, r.reverse, Heap.get?_push_size _ rfl⟩
  · obtain ⟨its, r, ht, hz⟩ := I5.tuple hx
    have hlen := r.length
    refine tail_any (ops := [.ref ad, .ref s4.heap.objs.size]) ht.typeIs (PyProof.Rows.slot_tuple_getitem.lookup) ?_ (by with_unfolding_all rfl)
    refine tupRev ht sl pl pu ps ?_ (by rw [List.size_toArray]; omega)
    refine ⟨.ref _, _, I5.laid (t' := s4.toks) (o := .tup xs.reverse) (fun b ob e => Heap.get?_push_of_some _ e) (Nat.le_refl _) ?_, rfl, q _ (I5.hok.fresh (Nat.le_refl _))⟩
    exact ⟨by rw [List.length_reverse]; exact hz, _, r.reverse, IsTup.new _ _⟩
theorem je_rev (ha : JE X W a fa) : JE X W (.Subscript a (.Slice none none (some (.UnaryOp .USub (.Constant (.int 1) k p1) p2)) p3) pos) (eOp1 gRev fa) := by
  refine PE.imp (pe_revA ha) fun σ H Q h => ?_
  obtain ⟨B, F, env, S, h⟩ := h
  refine tE_in S .refl h.bnd fun x e1 v H1 F1 l1 S1 r1 h1 => ?_
  unfold lift1 at h1
  cases q1 : rd e1 x with
  | none => rw [q1] at h1; exact h1.elim
  | some d =>
    rw [q1] at h1
    have t := S1.tp r1 q1
    cases t with
    | @lst p xs ds g1 g2 =>
      refine ⟨p, xs, rfl, .inl ⟨SqL.of g1, fun r n => ?_⟩⟩
      obtain ⟨F', l', S', z⟩ := (Res.lst n (dqAll_rev g2)).fin S1
      exact h1 _ _ F' (l1.trans l') S' z
    | @tup p xs ds g1 g2 =>
      refine ⟨p, xs, rfl, .inr ⟨S1.fh.sqT g1, fun r n => ?_⟩⟩
      obtain ⟨F', l', S', z⟩ := (Res.tup n (dqAll_rev g2)).fin S1
      exact h1 _ _ F' (l1.trans l') S' z
    | _ => exact h1.elim
end
end Pf
namespace Pf
open PySem PySem.Spec PyProof.Rows L2
def g_is_integer : En → O := sRet (eAnd (eOp1 (gIsi kInt) (eVar 0)) (eAnd (eNot (eOp1 (gIsi kBool) (eVar 0))) (eChain gLe gLe (eVar 1) (eVar 0) (eVar 2))))
def m_is_integer : List D → Rf := runF 3 g_is_integer
def g_times_itself : En → O := sSeq (sSet 2 (eC (.int 1)))
  (sSeq (sFor (lRng rng1 (aCons (eVar 1) (aNil))) (gN 3) (sSet 2 (eOp2 gMulI (eVar 2) (eVar 0))))
  (sRet (eVar 2)))
def m_times_itself : List D → Rf := runF 4 g_times_itself
def g_is_ring : En → O := sSeq (sIf (bOr (bNot (bT (eOp1 (gIsi kTup) (eVar 0)))) (bT (eOp2 gNe (eB gLen (aCons (eVar 0) (aNil))) (eC (.int 2))))) (sRet (eC (.bool false))) (sNil))
  (sSeq (sAsg (eVar 0) (gT [1, 2]))
  (sSeq (sIf (bOr (bNot (bT (eCall (Ar 3 m_is_integer) (aCons (eVar 1) (aCons (eC (.int 2)) (aCons (eC (.int 31)) (aNil))))))) (bOr (bT (eOp2 gNotIn (eVar 1) (eC (.tuple [.int 2, .int 3, .int 5, .int 7, .int 11, .int 13, .int 17, .int 19, .int 23, .int 29, .int 31])))) (bOr (bNot (bT (eOp1 (gIsi kTup) (eVar 2)))) (bNot (bT (eChain gLe gLe (eC (.int 1)) (eB gLen (aCons (eVar 2) (aNil))) (eC (.int 5)))))))) (sRet (eC (.bool false))) (sNil))
  (sRet (eAnd (eOp2 gLe (eCall (Ar 2 m_times_itself) (aCons (eVar 1) (aCons (eB gLen (aCons (eVar 2) (aNil))) (aNil)))) (eC (.int 32))) (eB gAll (aCons (eN (nLc (lSeq (eVar 2)) (gN 3) (bYes) (eCall (Ar 3 m_is_integer) (aCons (eVar 3) (aCons (eC (.int 0)) (aCons (eOp2 gSub (eVar 1) (eC (.int 1))) (aNil))))) [3])) (aNil)))))))
def m_is_ring : List D → Rf := runF 4 g_is_ring
def g_check_ring : En → O := sIf (bNot (bT (eCall (Ar 1 m_is_ring) (aCons (eVar 0) (aNil))))) (sRaise "InvalidRing") (sNil)
def m_check_ring : List D → Rf := runF 1 g_check_ring
def g_size_of : En → O := sRet (eCall (Ar 2 m_times_itself) (aCons (eOp2 gIx (eVar 0) (eC (.int 0))) (aCons (eB gLen (aCons (eOp2 gIx (eVar 0) (eC (.int 1))) (aNil))) (aNil))))
def m_size_of : List D → Rf := runF 1 g_size_of
def g_size : En → O := sSeq (sDrop (eCall (Ar 1 m_check_ring) (aCons (eVar 0) (aNil))))
  (sRet (eCall (Ar 1 m_size_of) (aCons (eVar 0) (aNil))))
def m_size : List D → Rf := runF 1 g_size
def g_check_element : En → O := sIf (bNot (bT (eCall (Ar 3 m_is_integer) (aCons (eVar 1) (aCons (eC (.int 0)) (aCons (eOp2 gSub (eCall (Ar 1 m_size_of) (aCons (eVar 0) (aNil))) (eC (.int 1))) (aNil))))))) (sRaise "InvalidElement") (sNil)
def m_check_element : List D → Rf := runF 2 g_check_element
def g_check_two : En → O := sSeq (sDrop (eCall (Ar 1 m_check_ring) (aCons (eVar 0) (aNil))))
  (sSeq (sDrop (eCall (Ar 2 m_check_element) (aCons (eVar 0) (aCons (eVar 1) (aNil)))))
  (sDrop (eCall (Ar 2 m_check_element) (aCons (eVar 0) (aCons (eVar 2) (aNil))))))
def m_check_two : List D → Rf := runF 3 g_check_two
def g_digits_of : En → O := sSeq (sOwn 2 (nLst (aNil)))
  (sSeq (sFor (lSeq (eOp2 gIx (eVar 0) (eC (.int 1)))) (gN 3) (sSeq (sDrop (eApp 2 (eOp2 gMod (eVar 1) (eOp2 gIx (eVar 0) (eC (.int 0))))))
  (sSet 1 (eOp2 gFdiv (eVar 1) (eOp2 gIx (eVar 0) (eC (.int 0)))))))
  (sRet (eVar 2)))
def m_digits_of : List D → Rf := runF 4 g_digits_of
def g_element_of : En → O := sSeq (sSet 2 (eC (.int 0)))
  (sSeq (sFor (lSeq (eOp1 gRev (eVar 1))) (gN 3) (sSet 2 (eOp2 gAdd (eOp2 gMul (eVar 2) (eOp2 gIx (eVar 0) (eC (.int 0)))) (eOp2 gMod (eVar 3) (eOp2 gIx (eVar 0) (eC (.int 0)))))))
  (sRet (eVar 2)))
def m_element_of : List D → Rf := runF 4 g_element_of
def g_plus : En → O := sRet (eCall (Ar 2 m_element_of) (aCons (eVar 0) (aCons (eN (nLc (lZip (aCons (eCall (Ar 2 m_digits_of) (aCons (eVar 0) (aCons (eVar 1) (aNil)))) (aCons (eCall (Ar 2 m_digits_of) (aCons (eVar 0) (aCons (eVar 2) (aNil)))) (aNil)))) (gT [3, 4]) (bYes) (eOp2 gAdd (eVar 3) (eVar 4)) [3, 4])) (aNil))))
def m_plus : List D → Rf := runF 5 g_plus
def g_times : En → O := sSeq (sAsg (eVar 0) (gT [3, 4]))
  (sSeq (sSet 5 (eB gLen (aCons (eVar 4) (aNil))))
  (sSeq (sOwn 6 (nOp2 nRep (eN (nLst (aCons (eC (.int 0)) (aNil)))) (eOp2 gMul (eC (.int 2)) (eVar 5))))
  (sSeq (sFor (lEnum (aCons (eCall (Ar 2 m_digits_of) (aCons (eVar 0) (aCons (eVar 1) (aNil)))) (aNil))) (gT [7, 8]) (sFor (lEnum (aCons (eCall (Ar 2 m_digits_of) (aCons (eVar 0) (aCons (eVar 2) (aNil)))) (aNil))) (gT [9, 10]) (sItemAug 6 (· + ·) (eOp2 gAdd (eVar 7) (eVar 9)) (eOp2 gMul (eVar 8) (eVar 10)))))
  (sSeq (sFor (lRng rng3 (aCons (eOp2 gSub (eOp2 gMul (eC (.int 2)) (eVar 5)) (eC (.int 1))) (aCons (eOp2 gSub (eVar 5) (eC (.int 1))) (aCons (eOp1 gNeg (eC (.int 1))) (aNil))))) (gN 11) (sFor (lEnum (aCons (eVar 4) (aNil))) (gT [7, 8]) (sItemAug 6 (· - ·) (eOp2 gAdd (eOp2 gSub (eVar 11) (eVar 5)) (eVar 7)) (eOp2 gMul (eVar 8) (eOp2 gIx (eVar 6) (eVar 11))))))
  (sRet (eCall (Ar 2 m_element_of) (aCons (eVar 0) (aCons (eCut (eVar 6) (oNone) (oSome (eVar 5))) (aNil)))))))))
def m_times : List D → Rf := runF 12 g_times
def g_minus : En → O := sRet (eCall (Ar 2 m_element_of) (aCons (eVar 0) (aCons (eN (nLc (lSeq (eCall (Ar 2 m_digits_of) (aCons (eVar 0) (aCons (eVar 1) (aNil))))) (gN 2) (bYes) (eOp2 gSub (eC (.int 0)) (eVar 2)) [2])) (aNil))))
def m_minus : List D → Rf := runF 3 g_minus
def g_raised : En → O := sSeq (sSet 3 (eC (.int 1)))
  (sSeq (whL (bT (eOp2 gGt (eVar 2) (eC (.int 0)))) (sSeq (sIf (bT (eOp2 gEq (eOp2 gMod (eVar 2) (eC (.int 2))) (eC (.int 1)))) (sSet 3 (eCall (Ar 3 m_times) (aCons (eVar 0) (aCons (eVar 3) (aCons (eVar 1) (aNil)))))) (sNil))
  (sPar [1, 2] (aCons (eCall (Ar 3 m_times) (aCons (eVar 0) (aCons (eVar 1) (aCons (eVar 1) (aNil))))) (aCons (eOp2 gFdiv (eVar 2) (eC (.int 2))) (aNil))))) 100)
  (sRet (eVar 3)))
def m_raised : List D → Rf := runF 4 g_raised
def g_add : En → O := sSeq (sDrop (eCall (Ar 3 m_check_two) (aCons (eVar 0) (aCons (eVar 1) (aCons (eVar 2) (aNil))))))
  (sRet (eCall (Ar 3 m_plus) (aCons (eVar 0) (aCons (eVar 1) (aCons (eVar 2) (aNil))))))
def m_add : List D → Rf := runF 3 g_add
def g_multiply : En → O := sSeq (sDrop (eCall (Ar 3 m_check_two) (aCons (eVar 0) (aCons (eVar 1) (aCons (eVar 2) (aNil))))))
  (sRet (eCall (Ar 3 m_times) (aCons (eVar 0) (aCons (eVar 1) (aCons (eVar 2) (aNil))))))
def m_multiply : List D → Rf := runF 3 g_multiply
def g_negative : En → O := sSeq (sDrop (eCall (Ar 1 m_check_ring) (aCons (eVar 0) (aNil))))
  (sSeq (sDrop (eCall (Ar 2 m_check_element) (aCons (eVar 0) (aCons (eVar 1) (aNil)))))
  (sRet (eCall (Ar 2 m_minus) (aCons (eVar 0) (aCons (eVar 1) (aNil))))))
def m_negative : List D → Rf := runF 2 g_negative
def g_power : En → O := sSeq (sDrop (eCall (Ar 1 m_check_ring) (aCons (eVar 0) (aNil))))
  (sSeq (sDrop (eCall (Ar 2 m_check_element) (aCons (eVar 0) (aCons (eVar 1) (aNil)))))
  (sSeq (sIf (bNot (bT (eCall (Ar 3 m_is_integer) (aCons (eVar 2) (aCons (eC (.int 0)) (aCons (eC (.int 9999)) (aNil))))))) (sRaise "InvalidNumber") (sNil))
  (sRet (eCall (Ar 3 m_raised) (aCons (eVar 0) (aCons (eVar 1) (aCons (eVar 2) (aNil))))))))
def m_power : List D → Rf := runF 3 g_power
def g__law_cell_at : En → O := sSeq (sIf (bT (eOp2 gLt (eVar 1) (eSLen 0))) (sRet (eSAt 0 (eVar 1))) (sNil))
  (sSeq (sIf (bT (eSNil 0)) (sRet (eC (.int 0))) (sNil))
  (sSeq (sSet 2 (eSAt 0 (eOp2 gMod (eVar 1) (eSLen 0))))
  (sSeq (sFor (lRng rng1 (aCons (eB gMin (aCons (eOp2 gFdiv (eVar 1) (eSLen 0)) (aCons (eC (.int 60)) (aNil)))) (aNil))) (gN 3) (sSet 2 (eOp2 gFdiv (eVar 2) (eC (.int 1000003)))))
  (sRet (eOp2 gAdd (eOp2 gAdd (eOp2 gMul (eSAt 0 (eOp2 gMod (eVar 1) (eSLen 0))) (eC (.int 31))) (eVar 1)) (eOp2 gMul (eVar 2) (eC (.int 101))))))))
def m__law_cell_at : List Int → List D → Rf := runS 4 g__law_cell_at
def g__law_mixed : En → O := sSeq (sSet 3 (eOp2 gMod (eOp2 gAdd (eOp2 gAdd (eOp2 gMul (eCallS (ArS 2 m__law_cell_at) (aCons (eVar 0) (aCons (eVar 1) (aNil)))) (eC (.int 1103515245))) (eOp2 gMul (eC (.int 7919)) (eVar 1))) (eC (.int 12345))) (eC (.int 2147483647))))
  (sRet (eOp2 gMod (eOp2 gMod (eOp2 gMod (eOp2 gPow (eVar 3) (eC (.int 5))) (eC (.int 2147483647))) (eC (.int 999983))) (eVar 2)))
def m__law_mixed : List Int → List D → Rf := runS 4 g__law_mixed
def g__law_draw : En → O := sSeq (sDrop (eApp 1 (eC (.int 0))))
  (sRet (eCallS (ArS 3 m__law_mixed) (aCons (eVar 0) (aCons (eB gLen (aCons (eVar 1) (aNil))) (aCons (eVar 2) (aNil))))))
def m__law_draw : List Int → List D → List D → RfD := runD 3 g__law_draw
def g__law_same_number : En → O := sRet (eAnd (eOp1 (gIsi kInt) (eVar 0)) (eAnd (eNot (eOp1 (gIsi kBool) (eVar 0))) (eOp2 gEq (eVar 0) (eVar 1))))
def m__law_same_number : List D → Rf := runF 2 g__law_same_number
def g__law_pick : En → O := sRet (eOp2 gIx (eVar 2) (eDraw (ArD 3 m__law_draw) (aCons (eVar 0) (aCons (eVar 1) (aCons (eB gLen (aCons (eVar 2) (aNil))) (aNil))))))
def m__law_pick : List Int → List D → List D → RfD := runD 3 g__law_pick
def g__law_some_ring : En → O := sSeq (sSet 2 (eN (nLst (aCons (eTup (aCons (eC (.int 2)) (aCons (eC (.int 1)) (aNil)))) (aCons (eTup (aCons (eC (.int 2)) (aCons (eC (.int 2)) (aNil)))) (aCons (eTup (aCons (eC (.int 2)) (aCons (eC (.int 3)) (aNil)))) (aCons (eTup (aCons (eC (.int 2)) (aCons (eC (.int 4)) (aNil)))) (aCons (eTup (aCons (eC (.int 2)) (aCons (eC (.int 5)) (aNil)))) (aCons (eTup (aCons (eC (.int 3)) (aCons (eC (.int 1)) (aNil)))) (aCons (eTup (aCons (eC (.int 3)) (aCons (eC (.int 2)) (aNil)))) (aCons (eTup (aCons (eC (.int 3)) (aCons (eC (.int 3)) (aNil)))) (aCons (eTup (aCons (eC (.int 5)) (aCons (eC (.int 1)) (aNil)))) (aCons (eTup (aCons (eC (.int 5)) (aCons (eC (.int 2)) (aNil)))) (aCons (eTup (aCons (eC (.int 7)) (aCons (eC (.int 1)) (aNil)))) (aCons (eTup (aCons (eC (.int 11)) (aCons (eC (.int 1)) (aNil)))) (aNil))))))))))))))))
  (sSeq (sAsg (eDraw (ArD 3 m__law_pick) (aCons (eVar 0) (aCons (eVar 1) (aCons (eVar 2) (aNil))))) (gT [3, 4]))
  (sRet (eTup (aCons (eVar 3) (aCons (eB gTuple (aCons (eN (nLc (lRng rng1 (aCons (eVar 4) (aNil))) (gN 5) (bYes) (eDraw (ArD 3 m__law_draw) (aCons (eVar 0) (aCons (eVar 1) (aCons (eVar 3) (aNil))))) [5])) (aNil))) (aNil))))))
def m__law_some_ring : List Int → List D → List D → RfD := runD 6 g__law_some_ring
def g__law_size_here : En → O := sSeq (sSet 1 (eC (.int 1)))
  (sSeq (sFor (lSeq (eOp2 gIx (eVar 0) (eC (.int 1)))) (gN 2) (sSet 1 (eOp2 gMul (eVar 1) (eOp2 gIx (eVar 0) (eC (.int 0))))))
  (sRet (eVar 1)))
def m__law_size_here : List D → Rf := runF 3 g__law_size_here
def g__law_coefs : En → O := sSeq (sOwn 2 (nLst (aNil)))
  (sSeq (sFor (lSeq (eOp2 gIx (eVar 0) (eC (.int 1)))) (gN 3) (sSeq (sDrop (eApp 2 (eOp2 gMod (eVar 1) (eOp2 gIx (eVar 0) (eC (.int 0))))))
  (sSet 1 (eOp2 gFdiv (eVar 1) (eOp2 gIx (eVar 0) (eC (.int 0)))))))
  (sRet (eVar 2)))
def m__law_coefs : List D → Rf := runF 4 g__law_coefs
def g__law_code : En → O := sSeq (sSet 2 (eC (.int 0)))
  (sSeq (sFor (lSeq (eOp1 gRev (eVar 1))) (gN 3) (sSet 2 (eOp2 gAdd (eOp2 gMul (eVar 2) (eOp2 gIx (eVar 0) (eC (.int 0)))) (eOp2 gMod (eVar 3) (eOp2 gIx (eVar 0) (eC (.int 0)))))))
  (sRet (eVar 2)))
def m__law_code : List D → Rf := runF 4 g__law_code
def g__law_sum_here : En → O := sRet (eCall (Ar 2 m__law_code) (aCons (eVar 0) (aCons (eN (nLc (lZip (aCons (eCall (Ar 2 m__law_coefs) (aCons (eVar 0) (aCons (eVar 1) (aNil)))) (aCons (eCall (Ar 2 m__law_coefs) (aCons (eVar 0) (aCons (eVar 2) (aNil)))) (aNil)))) (gT [3, 4]) (bYes) (eOp2 gAdd (eVar 3) (eVar 4)) [3, 4])) (aNil))))
def m__law_sum_here : List D → Rf := runF 5 g__law_sum_here
def g__law_product_here : En → O := sSeq (sSet 3 (eN (nLc (lSeq (eOp2 gIx (eVar 0) (eC (.int 1)))) (gN 4) (bYes) (eC (.int 0)) [4])))
  (sSeq (sSet 5 (eCall (Ar 2 m__law_coefs) (aCons (eVar 0) (aCons (eVar 1) (aNil)))))
  (sSeq (sFor (lSeq (eCall (Ar 2 m__law_coefs) (aCons (eVar 0) (aCons (eVar 2) (aNil))))) (gN 6) (sSeq (sSet 3 (eN (nLc (lZip (aCons (eVar 3) (aCons (eVar 5) (aNil)))) (gT [4, 7]) (bYes) (eOp2 gMod (eOp2 gAdd (eVar 4) (eOp2 gMul (eVar 6) (eVar 7))) (eOp2 gIx (eVar 0) (eC (.int 0)))) [4, 7])))
  (sSeq (sSet 8 (eOp2 gIx (eVar 5) (eOp1 gNeg (eC (.int 1)))))
  (sSet 5 (eN (nLc (lZip (aCons (eOp2 gAdd (eN (nLst (aCons (eC (.int 0)) (aNil)))) (eCut (eVar 5) (oNone) (oSome (eOp1 gNeg (eC (.int 1)))))) (aCons (eOp2 gIx (eVar 0) (eC (.int 1))) (aNil)))) (gT [4, 9]) (bYes) (eOp2 gMod (eOp2 gSub (eVar 4) (eOp2 gMul (eVar 8) (eVar 9))) (eOp2 gIx (eVar 0) (eC (.int 0)))) [4, 9]))))))
  (sRet (eCall (Ar 2 m__law_code) (aCons (eVar 0) (aCons (eVar 3) (aNil)))))))
def m__law_product_here : List D → Rf := runF 10 g__law_product_here
def g_divided : En → O := sSeq (sParN 3 4 (nList (aCons (eVar 1) (aNil))) (eOp2 gSub (eB gLen (aCons (eVar 2) (aNil))) (eC (.int 1))))
  (sSeq (sOwn 5 (nOp2 nRep (eN (nLst (aCons (eC (.int 0)) (aNil)))) (eOp2 gSub (eB gLen (aCons (eVar 1) (aNil))) (eVar 4))))
  (sSeq (sFor (lRng rng3 (aCons (eOp2 gSub (eB gLen (aCons (eVar 5) (aNil))) (eC (.int 1))) (aCons (eOp1 gNeg (eC (.int 1))) (aCons (eOp1 gNeg (eC (.int 1))) (aNil))))) (gN 6) (sSeq (sItem 5 (eVar 6) (eOp2 gMod (eOp2 gIx (eVar 3) (eOp2 gAdd (eVar 6) (eVar 4))) (eVar 0)))
  (sFor (lEnum (aCons (eVar 2) (aNil))) (gT [7, 8]) (sItem 3 (eOp2 gAdd (eVar 6) (eVar 7)) (eOp2 gMod (eOp2 gSub (eOp2 gIx (eVar 3) (eOp2 gAdd (eVar 6) (eVar 7))) (eOp2 gMul (eVar 8) (eOp2 gIx (eVar 5) (eVar 6)))) (eVar 0))))))
  (sRet (eIf (bT (eOp2 gEq (eB gMax (aCons (eVar 3) (aNil))) (eC (.int 0)))) (eB gTuple (aCons (eVar 5) (aNil))) (eC .none)))))
def m_divided : List D → Rf := runF 9 g_divided
def g_lower_parts : En → O := sSeq (sSet 2 (eN (nLst (aCons (eTup (aNil)) (aNil)))))
  (sSeq (sFor (lRng rng1 (aCons (eVar 1) (aNil))) (gN 3) (sSeq (sOwn 4 (nLst (aNil)))
  (sSeq (sFor (lSeq (eVar 2)) (gN 5) (sDrop (eExt 4 (eN (nLc (lRng rng1 (aCons (eVar 0) (aNil))) (gN 6) (bYes) (eOp2 gAdd (eVar 5) (eTup (aCons (eVar 6) (aNil)))) [6])))))
  (sSet 2 (eVar 4)))))
  (sRet (eVar 2)))
def m_lower_parts : List D → Rf := runF 7 g_lower_parts
def g_split : En → O := sSeq (sAsg (eVar 0) (gT [1, 2]))
  (sSeq (sFor (lRng rng2 (aCons (eC (.int 1)) (aCons (eOp2 gAdd (eOp2 gFdiv (eB gLen (aCons (eVar 2) (aNil))) (eC (.int 2))) (eC (.int 1))) (aNil)))) (gN 3) (sFor (lSeq (eCall (Ar 2 m_lower_parts) (aCons (eVar 1) (aCons (eVar 3) (aNil))))) (gN 4) (sSeq (sSet 5 (eCall (Ar 3 m_divided) (aCons (eVar 1) (aCons (eOp2 gAdd (eVar 2) (eTup (aCons (eC (.int 1)) (aNil)))) (aCons (eOp2 gAdd (eVar 4) (eTup (aCons (eC (.int 1)) (aNil)))) (aNil))))))
  (sIf (bT (eOp2 gIsNot (eVar 5) (eC .none))) (sRet (eTup (aCons (eOp2 gAdd (eVar 4) (eTup (aCons (eC (.int 1)) (aNil)))) (aCons (eVar 5) (aNil))))) (sNil)))))
  (sRet (eC .none)))
def m_split : List D → Rf := runF 6 g_split
def g_is_field : En → O := sSeq (sDrop (eCall (Ar 1 m_check_ring) (aCons (eVar 0) (aNil))))
  (sRet (eOp2 gIs (eCall (Ar 1 m_split) (aCons (eVar 0) (aNil))) (eC .none)))
def m_is_field : List D → Rf := runF 1 g_is_field
def g_factors : En → O := sSeq (sDrop (eCall (Ar 1 m_check_ring) (aCons (eVar 0) (aNil))))
  (sRet (eCall (Ar 1 m_split) (aCons (eVar 0) (aNil))))
def m_factors : List D → Rf := runF 1 g_factors
def g_paper : En → O := sSeq (sDrop (eCall (Ar 1 m_check_ring) (aCons (eVar 0) (aNil))))
  (sSeq (sSet 1 (eCall (Ar 1 m_split) (aCons (eVar 0) (aNil))))
  (sSeq (sIf (bT (eOp2 gIs (eVar 1) (eC .none))) (sRaise "IsField") (sNil))
  (sRet (eB gTuple (aCons (eN (nLc (lSeq (eVar 1)) (gN 2) (bYes) (eCall (Ar 2 m_element_of) (aCons (eVar 0) (aCons (eN (nList (aCons (eVar 2) (aNil)))) (aNil)))) [2])) (aNil))))))
def m_paper : List D → Rf := runF 3 g_paper
def g_is_paper : En → O := sSeq (sDrop (eCall (Ar 1 m_check_ring) (aCons (eVar 0) (aNil))))
  (sSeq (sIf (bOr (bNot (bT (eOp1 (gIsi kTup) (eVar 1)))) (bT (eOp2 gNe (eB gLen (aCons (eVar 1) (aNil))) (eC (.int 2))))) (sRet (eC (.bool false))) (sNil))
  (sSeq (sIf (bNot (bT (eB gAll (aCons (eN (nLc (lSeq (eVar 1)) (gN 2) (bYes) (eCall (Ar 3 m_is_integer) (aCons (eVar 2) (aCons (eC (.int 1)) (aCons (eOp2 gSub (eCall (Ar 1 m_size_of) (aCons (eVar 0) (aNil))) (eC (.int 1))) (aNil))))) [2])) (aNil))))) (sRet (eC (.bool false))) (sNil))
  (sRet (eOp2 gEq (eCall (Ar 3 m_times) (aCons (eVar 0) (aCons (eOp2 gIx (eVar 1) (eC (.int 0))) (aCons (eOp2 gIx (eVar 1) (eC (.int 1))) (aNil))))) (eC (.int 0))))))
def m_is_paper : List D → Rf := runF 3 g_is_paper
def g__law_same_truth : En → O := sRet (eAnd (eOp1 (gIsi kBool) (eVar 0)) (eOp2 gEq (eVar 0) (eVar 1)))
def m__law_same_truth : List D → Rf := runF 2 g__law_same_truth
def g_check_field : En → O := sIf (bNot (bT (eCall (Ar 1 m_is_field) (aCons (eVar 0) (aNil))))) (sRaise "NotField") (sNil)
def m_check_field : List D → Rf := runF 1 g_check_field
def g__law_known_fields : En → O := sSeq (sOwn 0 (nLst (aCons (eTup (aCons (eC (.int 2)) (aCons (eTup (aCons (eC (.int 0)) (aNil))) (aNil)))) (aCons (eTup (aCons (eC (.int 2)) (aCons (eTup (aCons (eC (.int 1)) (aNil))) (aNil)))) (aCons (eTup (aCons (eC (.int 2)) (aCons (eTup (aCons (eC (.int 1)) (aCons (eC (.int 1)) (aNil)))) (aNil)))) (aCons (eTup (aCons (eC (.int 2)) (aCons (eTup (aCons (eC (.int 1)) (aCons (eC (.int 1)) (aCons (eC (.int 0)) (aNil))))) (aNil)))) (aCons (eTup (aCons (eC (.int 2)) (aCons (eTup (aCons (eC (.int 1)) (aCons (eC (.int 0)) (aCons (eC (.int 1)) (aNil))))) (aNil)))) (aCons (eTup (aCons (eC (.int 2)) (aCons (eTup (aCons (eC (.int 1)) (aCons (eC (.int 1)) (aCons (eC (.int 0)) (aCons (eC (.int 0)) (aNil)))))) (aNil)))) (aCons (eTup (aCons (eC (.int 2)) (aCons (eTup (aCons (eC (.int 1)) (aCons (eC (.int 0)) (aCons (eC (.int 0)) (aCons (eC (.int 1)) (aNil)))))) (aNil)))) (aNil))))))))))
  (sSeq (sDrop (eExt 0 (eN (nLst (aCons (eTup (aCons (eC (.int 2)) (aCons (eTup (aCons (eC (.int 1)) (aCons (eC (.int 1)) (aCons (eC (.int 1)) (aCons (eC (.int 1)) (aNil)))))) (aNil)))) (aCons (eTup (aCons (eC (.int 2)) (aCons (eTup (aCons (eC (.int 1)) (aCons (eC (.int 0)) (aCons (eC (.int 1)) (aCons (eC (.int 0)) (aCons (eC (.int 0)) (aNil))))))) (aNil)))) (aCons (eTup (aCons (eC (.int 3)) (aCons (eTup (aCons (eC (.int 1)) (aNil))) (aNil)))) (aCons (eTup (aCons (eC (.int 3)) (aCons (eTup (aCons (eC (.int 1)) (aCons (eC (.int 0)) (aNil)))) (aNil)))) (aCons (eTup (aCons (eC (.int 3)) (aCons (eTup (aCons (eC (.int 2)) (aCons (eC (.int 1)) (aNil)))) (aNil)))) (aCons (eTup (aCons (eC (.int 3)) (aCons (eTup (aCons (eC (.int 1)) (aCons (eC (.int 2)) (aCons (eC (.int 0)) (aNil))))) (aNil)))) (aNil)))))))))))
  (sRet (eOp2 gAdd (eVar 0) (eN (nLst (aCons (eTup (aCons (eC (.int 5)) (aCons (eTup (aCons (eC (.int 2)) (aNil))) (aNil)))) (aCons (eTup (aCons (eC (.int 5)) (aCons (eTup (aCons (eC (.int 2)) (aCons (eC (.int 0)) (aNil)))) (aNil)))) (aCons (eTup (aCons (eC (.int 5)) (aCons (eTup (aCons (eC (.int 3)) (aCons (eC (.int 0)) (aNil)))) (aNil)))) (aCons (eTup (aCons (eC (.int 7)) (aCons (eTup (aCons (eC (.int 0)) (aNil))) (aNil)))) (aCons (eTup (aCons (eC (.int 11)) (aCons (eTup (aCons (eC (.int 4)) (aNil))) (aNil)))) (aCons (eTup (aCons (eC (.int 13)) (aCons (eTup (aCons (eC (.int 1)) (aNil))) (aNil)))) (aNil))))))))))))
def m__law_known_fields : List D → Rf := runF 1 g__law_known_fields
def g__law_some_field : En → O := sRet (eDraw (ArD 3 m__law_pick) (aCons (eVar 0) (aCons (eVar 1) (aCons (eCall0 m__law_known_fields) (aNil)))))
def m__law_some_field : List Int → List D → List D → RfD := runD 2 g__law_some_field
end Pf
namespace Pf
/-! ### coefficient vectors: functions, of which the first n places count -/
abbrev Ve := Nat → Int
def vAdd (a b : Ve) : Ve := fun i => a i + b i
def vSc (k : Int) (a : Ve) : Ve := fun i => k * a i
def v0 : Ve := fun _ => 0
def vE : Ve := fun i => if i = 0 then 1 else 0
/-- times the unknown, by the monic polynomial with the lower part lo -/
def vX (n : Nat) (lo : Ve) (v : Ve) : Ve := fun i => if i < n then (if i = 0 then 0 else v (i - 1)) - v (n - 1) * lo i else 0
/-- a polynomial, by its coefficients, acts -/
def vM (n : Nat) (lo : Ve) (a : Ve) : List Int → Ve
  | [] => v0
  | c :: cs => vAdd (vSc c a) (vX n lo (vM n lo a cs))
def vXk (n : Nat) (lo : Ve) : Nat → Ve → Ve
  | 0, v => v
  | k + 1, v => vX n lo (vXk n lo k v)
section
variable {n : Nat} {lo : Ve}
theorem vX_add (a b : Ve) : vX n lo (vAdd a b) = vAdd (vX n lo a) (vX n lo b) := by
  funext i
  unfold vX vAdd
  by_cases h : i < n <;> by_cases h0 : i = 0 <;> simp [h, h0] <;> grind
theorem vX_sc (k : Int) (a : Ve) : vX n lo (vSc k a) = vSc k (vX n lo a) := by
  funext i
  unfold vX vSc
  split
  · split <;> grind
  · grind
theorem vX_0 : vX n lo v0 = v0 := by
  funext i
  unfold vX v0
  split
  · split <;> grind
  · rfl
theorem vAdd_comm (a b : Ve) : vAdd a b = vAdd b a := by funext i; unfold vAdd; grind
theorem vAdd_assoc (a b c : Ve) : vAdd (vAdd a b) c = vAdd a (vAdd b c) := by funext i; unfold vAdd; grind
theorem vAdd_0 (a : Ve) : vAdd a v0 = a := by funext i; unfold vAdd v0; grind
theorem v0_add (a : Ve) : vAdd v0 a = a := by funext i; unfold vAdd v0; grind
theorem vSc_add (k : Int) (a b : Ve) : vSc k (vAdd a b) = vAdd (vSc k a) (vSc k b) := by funext i; unfold vAdd vSc; grind
theorem vSc_sc (k l : Int) (a : Ve) : vSc k (vSc l a) = vSc (k * l) a := by funext i; unfold vSc; grind
theorem vSc_0 (k : Int) : vSc k v0 = v0 := by funext i; unfold vSc v0; grind
theorem v0_sc (a : Ve) : vSc 0 a = v0 := by funext i; unfold vSc v0; grind
theorem add_sc (k l : Int) (a : Ve) : vSc (k + l) a = vAdd (vSc k a) (vSc l a) := by funext i; unfold vSc vAdd; grind
theorem one_sc (a : Ve) : vSc 1 a = a := by funext i; unfold vSc; grind
theorem vAdd_4 (a b c d : Ve) : vAdd (vAdd a b) (vAdd c d) = vAdd (vAdd a c) (vAdd b d) := by funext i; unfold vAdd; grind
theorem vM_add (a b : Ve) : ∀ cs : List Int, vM n lo (vAdd a b) cs = vAdd (vM n lo a cs) (vM n lo b cs)
  | [] => by unfold vM; rw [vAdd_0]
  | c :: cs => by
    unfold vM
    rw [vM_add a b cs, vX_add, vSc_add, vAdd_4]
theorem vM_sc (k : Int) (a : Ve) : ∀ cs : List Int, vM n lo (vSc k a) cs = vSc k (vM n lo a cs)
  | [] => by unfold vM; rw [vSc_0]
  | c :: cs => by
    unfold vM
    rw [vM_sc k a cs, vX_sc, vSc_add, vSc_sc, vSc_sc, Int.mul_comm]
theorem vM_X (a : Ve) : ∀ cs : List Int, vM n lo (vX n lo a) cs = vX n lo (vM n lo a cs)
  | [] => by unfold vM; rw [vX_0]
  | c :: cs => by
    unfold vM
    rw [vM_X a cs, ← vX_sc, ← vX_add]
/-- actions commute -/
theorem vM_M (a : Ve) (b : List Int) : ∀ cs : List Int, vM n lo (vM n lo a cs) b = vM n lo (vM n lo a b) cs
  | [] => by
    show vM n lo v0 b = v0
    rw [← v0_sc v0, vM_sc, v0_sc, v0_sc]
  | c :: cs => by
    show vM n lo (vAdd (vSc c a) (vX n lo (vM n lo a cs))) b = vAdd (vSc c (vM n lo a b)) (vX n lo (vM n lo (vM n lo a b) cs))
    rw [vM_add, vM_sc, vM_X, vM_M a b cs]
theorem vM_zip (a : Ve) : ∀ bs cs : List Int, bs.length = cs.length → vM n lo a (List.zipWith (· + ·) bs cs) = vAdd (vM n lo a bs) (vM n lo a cs)
  | [], [], _ => by
    show v0 = vAdd v0 v0
    rw [vAdd_0]
  | [], _ :: _, h => by simp at h
  | _ :: _, [], h => by simp at h
  | b :: bs, c :: cs, h => by
    show vAdd (vSc (b + c) a) (vX n lo (vM n lo a (List.zipWith (· + ·) bs cs))) = _
    rw [vM_zip a bs cs (by simpa using h), vX_add, add_sc, vAdd_4]
    rfl
theorem vM_map (a : Ve) (k : Int) : ∀ cs : List Int, vM n lo a (cs.map (k * ·)) = vSc k (vM n lo a cs)
  | [] => by
    show v0 = vSc k v0
    rw [vSc_0]
  | c :: cs => by
    show vAdd (vSc (k * c) a) (vX n lo (vM n lo a (cs.map (k * ·)))) = vSc k (vAdd (vSc c a) (vX n lo (vM n lo a cs)))
    rw [vM_map a k cs, vX_sc, vSc_add, vSc_sc]
theorem vXk_add (a b : Ve) : ∀ k, vXk n lo k (vAdd a b) = vAdd (vXk n lo k a) (vXk n lo k b)
  | 0 => rfl
  | k + 1 => by unfold vXk; rw [vXk_add a b k, vX_add]
theorem vXk_sc (c : Int) (a : Ve) : ∀ k, vXk n lo k (vSc c a) = vSc c (vXk n lo k a)
  | 0 => rfl
  | k + 1 => by unfold vXk; rw [vXk_sc c a k, vX_sc]
theorem vXk_0 : ∀ k, vXk n lo k v0 = v0
  | 0 => rfl
  | k + 1 => by unfold vXk; rw [vXk_0 k, vX_0]
theorem vXk_X (a : Ve) : ∀ k, vXk n lo k (vX n lo a) = vX n lo (vXk n lo k a)
  | 0 => rfl
  | k + 1 => by unfold vXk; rw [vXk_X a k]
theorem vXk_plus (a : Ve) (j : Nat) : ∀ k, vXk n lo (j + k) a = vXk n lo j (vXk n lo k a)
  | 0 => rfl
  | k + 1 => by
    show vX n lo (vXk n lo (j + k) a) = vXk n lo j (vX n lo (vXk n lo k a))
    rw [vXk_plus a j k, vXk_X]
/-- one place of a polynomial is raised -/
theorem vM_set (a : Ve) (d : Int) : ∀ (cs : List Int) (k : Nat) (c : Int), cs[k]? = some c → vM n lo a (cs.set k (c + d)) = vAdd (vM n lo a cs) (vSc d (vXk n lo k a))
  | [], _, _, h => by simp at h
  | e :: cs, 0, c, h => by
    simp at h
    subst h
    show vAdd (vSc (e + d) a) _ = vAdd (vAdd (vSc e a) _) (vSc d a)
    rw [add_sc, vAdd_assoc, vAdd_assoc, vAdd_comm (vSc d a)]
  | e :: cs, k + 1, c, h => by
    show vAdd (vSc e a) (vX n lo (vM n lo a (cs.set k (c + d)))) = vAdd (vAdd (vSc e a) (vX n lo (vM n lo a cs))) (vSc d (vX n lo (vXk n lo k a)))
    rw [vM_set a d cs k c (by simpa using h), vX_add, vX_sc, vAdd_assoc]
theorem vM_app (a : Ve) : ∀ (bs cs : List Int), vM n lo a (bs ++ cs) = vAdd (vM n lo a bs) (vXk n lo bs.length (vM n lo a cs))
  | [], cs => by
    show vM n lo a cs = vAdd v0 (vM n lo a cs)
    rw [v0_add]
  | b :: bs, cs => by
    show vAdd (vSc b a) (vX n lo (vM n lo a (bs ++ cs))) = vAdd (vAdd (vSc b a) (vX n lo (vM n lo a bs))) (vX n lo (vXk n lo bs.length (vM n lo a cs)))
    rw [vM_app a bs cs, vX_add, vAdd_assoc]
theorem vM_one (a : Ve) (c : Int) : vM n lo a [c] = vSc c a := by
  show vAdd (vSc c a) (vX n lo v0) = _
  rw [vX_0, vAdd_0]
theorem vM_rep (a : Ve) : ∀ k, vM n lo a (List.replicate k 0) = v0
  | 0 => rfl
  | k + 1 => by
    rw [List.replicate_succ]
    show vAdd (vSc 0 a) (vX n lo (vM n lo a (List.replicate k 0))) = v0
    rw [vM_rep a k, vX_0, v0_sc, vAdd_0]
/-- a short polynomial is its own vector -/
def vL (cs : List Int) : Ve := fun i => cs.getD i 0
theorem vM_short : ∀ cs : List Int, cs.length ≤ n → vM n lo vE cs = vL cs
  | [], _ => by funext i; simp [vM, v0, vL]
  | c :: cs, h => by
    have h' : cs.length < n := by simp at h; omega
    show vAdd (vSc c vE) (vX n lo (vM n lo vE cs)) = vL (c :: cs)
    rw [vM_short cs (Nat.le_of_lt h')]
    have top : vL cs (n - 1) = 0 := by
      unfold vL
      rw [List.getD_eq_getElem?_getD, List.getElem?_eq_none (by omega)]
      rfl
    funext i
    unfold vAdd vSc vE vX
    rw [top]
    cases i with
    | zero =>
      simp [vL]
    | succ i =>
      have e : vL (c :: cs) (i + 1) = vL cs i := by simp [vL]
      rw [e]
      by_cases hi : i + 1 < n
      · simp [hi]
      · rw [if_neg hi]
        unfold vL
        rw [List.getD_eq_getElem?_getD, List.getElem?_eq_none (by omega)]
        simp
/-- X to the n -/
theorem vX_top (lol : List Int) (hl : lol.length = n) (hn : 0 < n) (hlo : lo = vL lol) : vXk n lo n vE = vSc (-1) (vL lol) := by
  have e : ∀ k, k < n → vXk n lo k vE = fun i => if i = k then 1 else 0 := by
    intro k
    induction k with
    | zero => intro _; rfl
    | succ k ih =>
      intro hk
      show vX n lo (vXk n lo k vE) = _
      rw [ih (by omega)]
      funext i
      unfold vX
      by_cases hi : i < n
      · dsimp only
        rw [if_pos hi, if_neg (by omega : ¬ n - 1 = k)]
        cases i with
        | zero => simp
        | succ i => simp
      · rw [if_neg hi, if_neg (by omega)]
  obtain ⟨m, rfl⟩ : ∃ m, n = m + 1 := ⟨n - 1, by omega⟩
  show vX (m + 1) lo (vXk (m + 1) lo m vE) = _
  rw [e m (by omega)]
  funext i
  unfold vX vSc
  rw [hlo]
  by_cases hi : i < m + 1
  · rw [if_pos hi]
    have : (m + 1 - 1 = m) := by omega
    dsimp only
    rw [if_pos this]
    cases i with
    | zero => simp
    | succ i =>
      have : ¬ (i + 1 - 1 = m) := by omega
      simp [this]
      omega
  · rw [if_neg hi]
    unfold vL
    rw [List.getD_eq_getElem?_getD, List.getElem?_eq_none (by omega)]
    simp
theorem vM_supp (a : Ve) (ha : ∀ i, n ≤ i → a i = 0) : ∀ (cs : List Int) (i : Nat), n ≤ i → vM n lo a cs i = 0
  | [], _, _ => rfl
  | c :: cs, i, h => by
    unfold vM vAdd vSc vX
    rw [ha i h, if_neg (by omega)]
    simp
end
/-! ### modulo p -/
def vQ (p : Int) (a b : Ve) : Prop := ∀ i, a i % p = b i % p
def lQ (p : Int) : List Int → List Int → Prop
  | [], [] => True
  | a :: as, b :: bs => a % p = b % p ∧ lQ p as bs
  | _, _ => False
theorem emod_mul {p a b c d : Int} (h1 : a % p = b % p) (h2 : c % p = d % p) : (a * c) % p = (b * d) % p := by
  rw [Int.mul_emod, h1, h2, ← Int.mul_emod]
theorem emod_add {p a b c d : Int} (h1 : a % p = b % p) (h2 : c % p = d % p) : (a + c) % p = (b + d) % p := by
  rw [Int.add_emod, h1, h2, ← Int.add_emod]
theorem emod_sub {p a b c d : Int} (h1 : a % p = b % p) (h2 : c % p = d % p) : (a - c) % p = (b - d) % p := by
  rw [Int.sub_emod, h1, h2, ← Int.sub_emod]
section
variable {n : Nat} {lo : Ve} {p : Int}
theorem vQ.refl (a : Ve) : vQ p a a := fun _ => rfl
theorem vX_Q {a b : Ve} (h : vQ p a b) : vQ p (vX n lo a) (vX n lo b) := fun i => by
  unfold vX
  split
  · refine emod_sub ?_ (emod_mul (h _) rfl)
    split
    · rfl
    · exact h _
  · rfl
theorem vM_Q {a b : Ve} (h : vQ p a b) : ∀ {cs ds : List Int}, lQ p cs ds → vQ p (vM n lo a cs) (vM n lo b ds)
  | [], [], _ => fun _ => rfl
  | [], _ :: _, q => q.elim
  | _ :: _, [], q => q.elim
  | c :: cs, d :: ds, q => fun i => emod_add (emod_mul q.1 (h i)) (vX_Q (vM_Q h q.2) i)
theorem lQ_refl : ∀ cs : List Int, lQ p cs cs
  | [] => trivial
  | _ :: cs => ⟨rfl, lQ_refl cs⟩
theorem lQ_symm : ∀ {cs ds : List Int}, lQ p cs ds → lQ p ds cs
  | [], [], _ => trivial
  | [], _ :: _, q => q.elim
  | _ :: _, [], q => q.elim
  | _ :: _, _ :: _, q => ⟨q.1.symm, lQ_symm q.2⟩
theorem lQ_mod : ∀ cs : List Int, lQ p (cs.map (· % p)) cs
  | [] => trivial
  | _ :: cs => ⟨Int.emod_emod_of_dvd _ (Int.dvd_refl p), lQ_mod cs⟩
theorem lQ_len : ∀ {cs ds : List Int}, lQ p cs ds → cs.length = ds.length
  | [], [], _ => rfl
  | [], _ :: _, q => q.elim
  | _ :: _, [], q => q.elim
  | _ :: _, _ :: _, q => by simp [lQ_len q.2]
theorem lQ_zip : ∀ {a b c d : List Int}, lQ p a b → lQ p c d → lQ p (List.zipWith (· + ·) a c) (List.zipWith (· + ·) b d)
  | [], [], _, _, _, _ => by simp [lQ]
  | [], _ :: _, _, _, q, _ => q.elim
  | _ :: _, [], _, _, q, _ => q.elim
  | _ :: _, _ :: _, [], [], _, _ => by simp [lQ]
  | _ :: _, _ :: _, [], _ :: _, _, q => q.elim
  | _ :: _, _ :: _, _ :: _, [], _, q => q.elim
  | _ :: _, _ :: _, _ :: _, _ :: _, q, r => ⟨emod_add q.1 r.1, lQ_zip q.2 r.2⟩
theorem vL_Q : ∀ {cs ds : List Int}, lQ p cs ds → vQ p (vL cs) (vL ds)
  | [], [], _ => fun _ => rfl
  | [], _ :: _, q => q.elim
  | _ :: _, [], q => q.elim
  | c :: cs, d :: ds, q => fun i => by
    cases i with
    | zero => exact q.1
    | succ i =>
      have := vL_Q q.2 i
      simpa [vL] using this
end
/-! ### numbers and digits -/
def dig (p : Int) : Nat → Int → List Int
  | 0, _ => []
  | n + 1, x => x % p :: dig p n (x / p)
def cod (p : Int) : List Int → Int
  | [] => 0
  | c :: cs => cod p cs * p + c % p
def lst (n : Nat) (v : Ve) : List Int := (List.range n).map v
theorem dig_len (p : Int) : ∀ n x, (dig p n x).length = n
  | 0, _ => rfl
  | n + 1, x => by simp [dig, dig_len p n]
theorem lst_len (n : Nat) (v : Ve) : (lst n v).length = n := by simp [lst]
theorem lst_get (n : Nat) (v : Ve) (i : Nat) (h : i < n) : (lst n v)[i]? = some (v i) := by simp [lst, h]
theorem vL_lst {n : Nat} {v : Ve} (h : ∀ i, n ≤ i → v i = 0) : vL (lst n v) = v := by
  funext i
  unfold vL
  rw [List.getD_eq_getElem?_getD]
  by_cases hi : i < n
  · rw [lst_get n v i hi]; rfl
  · rw [List.getElem?_eq_none (by rw [lst_len]; omega), h i (by omega)]; rfl
theorem lst_vL (cs : List Int) : lst cs.length (vL cs) = cs := by
  apply List.ext_getElem?
  intro i
  by_cases hi : i < cs.length
  · rw [lst_get _ _ _ hi]
    simp [vL, hi]
  · rw [List.getElem?_eq_none (by rw [lst_len]; omega), List.getElem?_eq_none (by omega)]
theorem dig_cod {p : Int} (hp : 0 < p) : ∀ cs : List Int, dig p cs.length (cod p cs) = cs.map (· % p)
  | [] => rfl
  | c :: cs => by
    show (cod p cs * p + c % p) % p :: dig p cs.length ((cod p cs * p + c % p) / p) = _
    have h1 := Int.emod_nonneg c (Int.ne_of_gt hp)
    have h2 := Int.emod_lt_of_pos c hp
    have e1 : (cod p cs * p + c % p) % p = c % p := by
      rw [Int.add_comm, Int.add_mul_emod_self_right, Int.emod_eq_of_lt h1 h2]
    have e2 : (cod p cs * p + c % p) / p = cod p cs := by
      rw [Int.add_comm, Int.add_mul_ediv_right _ _ (Int.ne_of_gt hp), Int.ediv_eq_zero_of_lt h1 h2, Int.zero_add]
    rw [e1, e2, dig_cod hp cs]
    rfl
theorem cod_dig {p : Int} (hp : 0 < p) : ∀ (n : Nat) (x : Int), 0 ≤ x → x < p ^ n → cod p (dig p n x) = x
  | 0, x, h0, h1 => by
    have : x = 0 := by simp at h1; omega
    subst this; rfl
  | n + 1, x, h0, h1 => by
    show cod p (dig p n (x / p)) * p + x % p % p = x
    have h2 : x / p < p ^ n := by
      apply Int.ediv_lt_of_lt_mul hp
      rw [Int.pow_succ] at h1
      exact h1
    rw [cod_dig hp n (x / p) (Int.ediv_nonneg h0 (Int.le_of_lt hp)) h2, Int.emod_emod_of_dvd _ (Int.dvd_refl p)]
    have := Int.mul_ediv_add_emod x p
    rw [Int.mul_comm] at this
    exact this
theorem cod_lt {p : Int} (hp : 0 < p) : ∀ cs : List Int, 0 ≤ cod p cs ∧ cod p cs < p ^ cs.length
  | [] => by simp [cod]
  | c :: cs => by
    obtain ⟨h1, h2⟩ := cod_lt hp cs
    have h3 := Int.emod_nonneg c (Int.ne_of_gt hp)
    have h4 := Int.emod_lt_of_pos c hp
    have h5 : 0 ≤ cod p cs * p := Int.mul_nonneg h1 (Int.le_of_lt hp)
    have h6 : (cod p cs + 1) * p ≤ p ^ cs.length * p := Int.mul_le_mul_of_nonneg_right (by omega) (Int.le_of_lt hp)
    rw [List.length_cons, Int.pow_succ]
    unfold cod
    rw [Int.add_mul] at h6
    constructor <;> omega
theorem cod_Q {p : Int} : ∀ {cs ds : List Int}, lQ p cs ds → cod p cs = cod p ds
  | [], [], _ => rfl
  | [], _ :: _, q => q.elim
  | _ :: _, [], q => q.elim
  | c :: cs, d :: ds, q => by unfold cod; rw [cod_Q q.2, q.1]
theorem dig_bnd {p : Int} (hp : 0 < p) : ∀ (n : Nat) (x c : Int), c ∈ dig p n x → 0 ≤ c ∧ c < p
  | 0, _, _, h => by simp [dig] at h
  | n + 1, x, c, h => by
    rcases List.mem_cons.mp h with rfl | h
    · exact ⟨Int.emod_nonneg x (Int.ne_of_gt hp), Int.emod_lt_of_pos x hp⟩
    · exact dig_bnd hp n _ c h
theorem lQ_lst {p : Int} {n : Nat} {a b : Ve} (h : vQ p a b) : lQ p (lst n a) (lst n b) := by
  unfold lst
  generalize List.range n = l
  induction l with
  | nil => trivial
  | cons x l ih => exact ⟨h x, ih⟩
/-! ### the ring -/
/-- the product of two vectors by coefficients, as numbers -/
def tmL (lol a b : List Int) : List Int := lst lol.length (vM lol.length (vL lol) (vL a) b)
def tmE (p : Int) (lol : List Int) (x y : Int) : Int := cod p (tmL lol (dig p lol.length x) (dig p lol.length y))
def plE (p : Int) (n : Nat) (x y : Int) : Int := cod p (List.zipWith (· + ·) (dig p n x) (dig p n y))
def miE (p : Int) (n : Nat) (x : Int) : Int := cod p ((dig p n x).map (0 - ·))
section
variable {p : Int} {lol : List Int}
abbrev vT (lol : List Int) (a b : List Int) : Ve := vM lol.length (vL lol) (vL a) b
theorem vT_eq {a : List Int} (ha : a.length = lol.length) (b : List Int) : vT lol a b = vM lol.length (vL lol) (vM lol.length (vL lol) vE a) b := by
  unfold vT
  rw [vM_short a (by omega)]
theorem tmL_len (a b : List Int) : (tmL lol a b).length = lol.length := lst_len _ _
theorem vT_supp {a : List Int} (ha : a.length = lol.length) (b : List Int) (i : Nat) (h : lol.length ≤ i) : vT lol a b i = 0 :=
  vM_supp _ (fun j hj => by unfold vL; rw [List.getD_eq_getElem?_getD, List.getElem?_eq_none (by omega)]; rfl) b i h
theorem vL_tmL {a : List Int} (ha : a.length = lol.length) (b : List Int) : vL (tmL lol a b) = vT lol a b := vL_lst (vT_supp ha b)
theorem vT_comm {a b : List Int} (ha : a.length = lol.length) (hb : b.length = lol.length) : vT lol a b = vT lol b a := by
  rw [vT_eq ha, vT_eq hb, vM_M]
/-- what a product's digits are, and act as -/
theorem dig_tmE (hp : 0 < p) (x y : Int) : lQ p (dig p lol.length (tmE p lol x y)) (tmL lol (dig p lol.length x) (dig p lol.length y)) := by
  unfold tmE
  have := dig_cod hp (tmL lol (dig p lol.length x) (dig p lol.length y))
  rw [tmL_len] at this
  rw [this]
  exact lQ_mod _
theorem dig_plE (hp : 0 < p) (n : Nat) (x y : Int) : lQ p (dig p n (plE p n x y)) (List.zipWith (· + ·) (dig p n x) (dig p n y)) := by
  unfold plE
  have := dig_cod hp (List.zipWith (· + ·) (dig p n x) (dig p n y))
  rw [List.length_zipWith, dig_len, dig_len, Nat.min_self] at this
  rw [this]
  exact lQ_mod _
theorem tmE_comm (x y : Int) : tmE p lol x y = tmE p lol y x := by
  unfold tmE tmL
  have h := vT_comm (lol := lol) (a := dig p lol.length x) (b := dig p lol.length y) (dig_len _ _ _) (dig_len _ _ _)
  unfold vT at h
  rw [h]
theorem tmE_assoc (hp : 0 < p) (x y z : Int) : tmE p lol (tmE p lol x y) z = tmE p lol x (tmE p lol y z) := by
  have h1 : tmE p lol (tmE p lol x y) z = cod p (lst lol.length (vM lol.length (vL lol) (vT lol (dig p lol.length x) (dig p lol.length y)) (dig p lol.length z))) := by
    show cod p (lst lol.length (vM lol.length (vL lol) (vL (dig p lol.length (tmE p lol x y))) (dig p lol.length z))) = _
    apply cod_Q
    apply lQ_lst
    apply vM_Q _ (lQ_refl _)
    have := vL_Q (dig_tmE (lol := lol) hp x y)
    rw [vL_tmL (dig_len _ _ _)] at this
    exact this
  have h2 : tmE p lol x (tmE p lol y z) = cod p (lst lol.length (vM lol.length (vL lol) (vL (dig p lol.length x)) (tmL lol (dig p lol.length y) (dig p lol.length z)))) := by
    show cod p (lst lol.length (vM lol.length (vL lol) (vL (dig p lol.length x)) (dig p lol.length (tmE p lol y z)))) = _
    apply cod_Q
    apply lQ_lst
    exact vM_Q (vQ.refl _) (dig_tmE (lol := lol) hp y z)
  rw [h1, h2]
  congr 2
  have e1 : vM lol.length (vL lol) (vL (dig p lol.length x)) (tmL lol (dig p lol.length y) (dig p lol.length z)) = vM lol.length (vL lol) (vL (tmL lol (dig p lol.length y) (dig p lol.length z))) (dig p lol.length x) :=
    vT_comm (dig_len _ _ _) (tmL_len _ _)
  rw [e1, vL_tmL (dig_len _ _ _)]
  show vM lol.length (vL lol) (vT lol (dig p lol.length x) (dig p lol.length y)) (dig p lol.length z) = vM lol.length (vL lol) (vT lol (dig p lol.length y) (dig p lol.length z)) (dig p lol.length x)
  rw [vT_eq (dig_len _ _ _), vT_eq (dig_len _ _ _)]
  rw [vM_M (vM lol.length (vL lol) vE (dig p lol.length y)) (dig p lol.length x) (dig p lol.length z), vM_M vE (dig p lol.length x) (dig p lol.length y)]
theorem tmE_plus (hp : 0 < p) (x y z : Int) : tmE p lol x (plE p lol.length y z) = plE p lol.length (tmE p lol x y) (tmE p lol x z) := by
  have h1 : tmE p lol x (plE p lol.length y z) = cod p (lst lol.length (vAdd (vT lol (dig p lol.length x) (dig p lol.length y)) (vT lol (dig p lol.length x) (dig p lol.length z)))) := by
    show cod p (lst lol.length (vM lol.length (vL lol) (vL (dig p lol.length x)) (dig p lol.length (plE p lol.length y z)))) = _
    rw [← vM_zip _ _ _ (by rw [dig_len, dig_len])]
    apply cod_Q
    apply lQ_lst
    exact vM_Q (vQ.refl _) (dig_plE hp _ y z)
  rw [h1]
  show _ = cod p (List.zipWith (· + ·) (dig p lol.length (tmE p lol x y)) (dig p lol.length (tmE p lol x z)))
  apply Eq.symm
  have e : lst lol.length (vAdd (vT lol (dig p lol.length x) (dig p lol.length y)) (vT lol (dig p lol.length x) (dig p lol.length z))) = List.zipWith (· + ·) (tmL lol (dig p lol.length x) (dig p lol.length y)) (tmL lol (dig p lol.length x) (dig p lol.length z)) := by
    unfold tmL lst vAdd
    rw [List.zipWith_map]
    generalize List.range lol.length = l
    induction l with
    | nil => rfl
    | cons a l ih => simp only [List.map_cons, List.zipWith_cons_cons, ih]
  rw [e]
  exact cod_Q (lQ_zip (dig_tmE hp x y) (dig_tmE hp x z))
end
end Pf
namespace Pf
open PySem PySem.Spec PyProof.Rows L2
def iL (l : List Int) : List D := l.map PyData.int
def rgD (p : Int) (lol : List Int) : D := .tuple [.int p, .tuple (iL lol)]
structure Rg (p : Int) (lol : List Int) : Prop where
  p2 : 2 ≤ p
  pm : p ≤ 31
  n1 : 1 ≤ lol.length
  nm : lol.length ≤ 5
  lo : ∀ c ∈ lol, 0 ≤ c ∧ c < p
theorem ix0 (p : Int) (lol : List Int) : gIx (rgD p lol) (.int 0) = some (.int p) := rfl
theorem ix1 (p : Int) (lol : List Int) : gIx (rgD p lol) (.int 1) = some (.tuple (iL lol)) := rfl
theorem gMod_ok {x p : Int} (h : 0 < p) : gMod (.int x) (.int p) = some (.int (x % p)) := by
  unfold gMod
  simp [h]
theorem gFdiv_ok {x p : Int} (h : 0 < p) (h2 : p ≤ 31) : gFdiv (.int x) (.int p) = some (.int (x / p)) := by
  unfold gFdiv
  simp only
  rw [if_pos (decide_eq_true ⟨h, by omega⟩)]
theorem gMul_ok {x p : Int} (h : inR p = true) : gMul (.int x) (.int p) = some (.int (x * p)) := by
  unfold gMul
  simp [h]
theorem iL_app (a b : List Int) : iL (a ++ b) = iL a ++ iL b := by simp [iL]
theorem iL_len (a : List Int) : (iL a).length = a.length := by simp [iL]
theorem szL_ok {n : Nat} (h : n ≤ 10000) : szL n = true := Nat.ble_eq_true_of_le h
theorem seq_f {g1 g2 : En → O} {env : En} {r : Rf} (e : En) (h : g1 env = .nx e) (h2 : (g2 e).f = r) : (sSeq g1 g2 env).f = r := by unfold sSeq; rw [h]; exact h2
theorem sSeq_nx {g1 g2 : En → O} {env e : En} (h : g1 env = .nx e) : sSeq g1 g2 env = g2 e := by unfold sSeq; rw [h]
section
variable {p : Int} {lol : List Int}
theorem dig_loop (hp : 0 < p) (hm : p ≤ 31) : ∀ (l : List D) (x : Int) (acc : List Int) (s : Sl), acc.length + l.length ≤ 9999 →
    ∃ s' x', forL (gN 3) (sSeq (sDrop (eApp 2 (eOp2 gMod (eVar 1) (eOp2 gIx (eVar 0) (eC (.int 0)))))) (sSet 1 (eOp2 gFdiv (eVar 1) (eOp2 gIx (eVar 0) (eC (.int 0)))))) l [.va (rgD p lol), .va (.int x), .ow false (iL acc), s] =
      .nx [.va (rgD p lol), .va (.int x'), .ow false (iL (acc ++ dig p l.length x)), s']
  | [], x, acc, s, _ => ⟨s, x, by simp [forL, dig]⟩
  | d :: l, x, acc, s, h => by
    obtain ⟨s', x', e⟩ := dig_loop hp hm l (x / p) (acc ++ [x % p]) (.va d) (by simp at h ⊢; omega)
    refine ⟨s', x', ?_⟩
    have e2 : acc ++ dig p (d :: l).length x = (acc ++ [x % p]) ++ dig p l.length (x / p) := by simp [dig]
    rw [e2, ← e]
    have hz : szL (iL acc).length = true := szL_ok (by rw [iL_len]; simp at h; omega)
    simp [forL, gN, sSeq, sDrop, eApp, eOp2, eVar, eC, R.bnd, R.o, rd, lift2, ix0, gMod_ok hp, gFdiv_ok hp hm, fz, sSet, hz, iL_app]
    rfl
theorem s_digits (hp : 0 < p) (hm : p ≤ 31) (hn : lol.length ≤ 5) (x : Int) : m_digits_of [rgD p lol, .int x] = .ok (.list (iL (dig p lol.length x))) := by
  obtain ⟨s', x', e⟩ := dig_loop (p := p) (lol := lol) hp hm (iL lol) x [] .no (by rw [iL_len]; simp; omega)
  rw [iL_len] at e
  show (g_digits_of [.va (rgD p lol), .va (.int x), .no, .no]).f = _
  unfold g_digits_of
  exact seq_f [.va (rgD p lol), .va (.int x), .ow false (iL []), .no] rfl (seq_f _ e rfl)
/-! element_of -/
theorem gAdd_ok (x y : Int) : gAdd (.int x) (.int y) = some (.int (x + y)) := rfl
theorem inR_31 {p : Int} (h : 0 ≤ p) (h2 : p ≤ 31) : inR p = true := by
  unfold inR
  rw [Nat.blt_eq]
  omega
theorem elm_loop (hp : 0 < p) (hm : p ≤ 31) (v : Sl) : ∀ (l : List Int) (x : Int) (s : Sl), ∃ s',
    forL (gN 3) (sSet 2 (eOp2 gAdd (eOp2 gMul (eVar 2) (eOp2 gIx (eVar 0) (eC (.int 0)))) (eOp2 gMod (eVar 3) (eOp2 gIx (eVar 0) (eC (.int 0)))))) (iL l) [.va (rgD p lol), v, .va (.int x), s] =
      .nx [.va (rgD p lol), v, .va (.int (l.foldl (fun x c => x * p + c % p) x)), s']
  | [], x, s => ⟨s, rfl⟩
  | c :: l, x, s => by
    obtain ⟨s', e⟩ := elm_loop hp hm v l (x * p + c % p) (.va (.int c))
    refine ⟨s', ?_⟩
    rw [List.foldl_cons, ← e]
    have hi := inR_31 (by omega) hm
    simp [iL, forL, gN, eOp2, eVar, eC, R.bnd, R.o, rd, lift2, ix0, gMod_ok hp, gMul_ok hi, gAdd_ok, fz, sSet]
theorem cod_foldl (p : Int) : ∀ l : List Int, l.reverse.foldl (fun x c => x * p + c % p) 0 = cod p l := by
  intro l
  rw [List.foldl_reverse]
  induction l with
  | nil => rfl
  | cons c l ih => rw [List.foldr_cons, ih]; rfl
theorem iL_rev (l : List Int) : (iL l).reverse = iL l.reverse := by simp [iL]
theorem s_element (hp : 0 < p) (hm : p ≤ 31) (l : List Int) : m_element_of [rgD p lol, .list (iL l)] = .ok (.int (cod p l)) := by
  obtain ⟨s', e⟩ := elm_loop (p := p) (lol := lol) hp hm (.va (.list (iL l))) l.reverse 0 .no
  show (g_element_of [.va (rgD p lol), .va (.list (iL l)), .no, .no]).f = _
  unfold g_element_of
  rw [cod_foldl] at e
  refine seq_f [.va (rgD p lol), .va (.list (iL l)), .va (.int 0), .no] rfl (seq_f [.va (rgD p lol), .va (.list (iL l)), .va (.int (cod p l)), s'] ?_ rfl)
  rw [← e, ← iL_rev]
  rfl
/-! plus -/
theorem zip_iL : ∀ a b : List Int, zipD (iL a) (iL b) = (List.zipWith (fun x y => PyData.tuple [.int x, .int y]) a b)
  | [], _ => by simp [iL, zipD]
  | _ :: _, [] => by simp [iL, zipD]
  | x :: a, y :: b => by
    have := zip_iL a b
    simp [iL] at this
    simp [iL, zipD, this]
theorem pls_loop (e0 : List Sl) (h0 : e0.length = 3) : ∀ (a b : List Int), lcL (gT [3, 4]) bYes (eOp2 gAdd (eVar 3) (eVar 4)) [3, 4] (zipD (iL a) (iL b)) (e0 ++ [.no, .no]) = .ok (iL (List.zipWith (· + ·) a b)) (e0 ++ [.no, .no])
  | [], _ => by simp [iL, zipD, lcL]
  | _ :: _, [] => by simp [iL, zipD, lcL]
  | x :: a, y :: b => by
    have ih := pls_loop e0 h0 a b
    match e0, h0 with
    | [s0, s1, s2], _ =>
      simp [iL] at ih
      simp [iL, zipD, lcL, gT, setAll, noX, bYes, eOp2, eVar, R.bnd, rd, lift2, gAdd_ok, fz, wipeE, ih]
theorem s_plus (hp : 0 < p) (hm : p ≤ 31) (hn : lol.length ≤ 5) (x y : Int) : m_plus [rgD p lol, .int x, .int y] = .ok (.int (plE p lol.length x y)) := by
  have h1 := pls_loop [.va (rgD p lol), .va (.int x), .va (.int y)] rfl (dig p lol.length x) (dig p lol.length y)
  show (g_plus [.va (rgD p lol), .va (.int x), .va (.int y), .no, .no]).f = _
  unfold g_plus
  have e1 := s_digits (lol := lol) hp hm hn x
  have e2 := s_digits (lol := lol) hp hm hn y
  have e3 := s_element (lol := lol) hp hm (List.zipWith (· + ·) (dig p lol.length x) (dig p lol.length y))
  simp at h1
  have hz : szL (zipD (iL (dig p lol.length x)) (iL (dig p lol.length y))).length = true := szL_ok (by rw [zip_iL, List.length_zipWith, dig_len, dig_len]; omega)
  simp [sRet, eCall, aCons, aNil, eVar, R.bnd, R.o, eN, nLc, lZip, fzAll, fz, Ar, e1, e2, seqOf, hz, plainAt, plainS, wipeE, h1, backE, e3, plE, O.f]
end
end Pf
namespace Pf
open PySem PySem.Spec PyProof.Rows L2
/-! ### times: plain part -/
def addRow (one : Int) : List Int → Nat → List Int → List Int
  | P, _, [] => P
  | P, k, o :: os => addRow one (P.set k (P.getD k 0 + one * o)) (k + 1) os
def addAll (b : List Int) : List Int → Nat → List Int → List Int
  | P, _, [] => P
  | P, i, o :: os => addAll b (addRow o P i b) (i + 1) os
def redD (lol : List Int) : Nat → List Int → List Int
  | 0, P => P
  | m + 1, P => redD lol m (addRow (-(P.getD (lol.length + m) 0)) P m lol)
theorem getD_some {P : List Int} {k : Nat} (h : k < P.length) : P[k]? = some (P.getD k 0) := by simp [h]
theorem addRow_len (one : Int) : ∀ (os P : List Int) (k : Nat), (addRow one P k os).length = P.length
  | [], _, _ => rfl
  | o :: os, P, k => by unfold addRow; rw [addRow_len one os]; simp
theorem addAll_len (b : List Int) : ∀ (as P : List Int) (i : Nat), (addAll b P i as).length = P.length
  | [], _, _ => rfl
  | o :: os, P, k => by unfold addAll; rw [addAll_len b os, addRow_len]
theorem redD_len (lol : List Int) : ∀ (m : Nat) (P : List Int), (redD lol m P).length = P.length
  | 0, _ => rfl
  | m + 1, P => by unfold redD; rw [redD_len lol m, addRow_len]
theorem addRow_take (one : Int) (t : Nat) : ∀ (os P : List Int) (k : Nat), k + os.length ≤ t → (addRow one P k os).take t = addRow one (P.take t) k os
  | [], _, _, _ => rfl
  | o :: os, P, k, h => by
    unfold addRow
    simp only [List.length_cons] at h
    rw [addRow_take one t os _ _ (by omega), List.take_set]
    congr 2
    simp [List.getD_eq_getElem?_getD, List.getElem?_take, show k < t by omega]
section
variable {n : Nat} {lo : Ve}
theorem vM_row (a : Ve) (one : Int) : ∀ (os P : List Int) (k : Nat), k + os.length ≤ P.length → vM n lo a (addRow one P k os) = vAdd (vM n lo a P) (vSc one (vXk n lo k (vM n lo a os)))
  | [], P, k, _ => by
    show vM n lo a P = vAdd (vM n lo a P) (vSc one (vXk n lo k v0))
    rw [vXk_0, vSc_0, vAdd_0]
  | o :: os, P, k, h => by
    simp only [List.length_cons] at h
    unfold addRow
    rw [vM_row a one os _ _ (by simp; omega), vM_set a (one * o) P k _ (getD_some (by omega))]
    show _ = vAdd (vM n lo a P) (vSc one (vXk n lo k (vAdd (vSc o a) (vX n lo (vM n lo a os)))))
    rw [vXk_add, vXk_sc, vXk_X, vSc_add, vSc_sc, vAdd_assoc]
    rfl
theorem vM_all (a : Ve) (b : List Int) : ∀ (as P : List Int) (i : Nat), i + as.length + b.length ≤ P.length + 1 → vM n lo a (addAll b P i as) = vAdd (vM n lo a P) (vXk n lo i (vM n lo (vM n lo a b) as))
  | [], P, i, _ => by
    show vM n lo a P = vAdd (vM n lo a P) (vXk n lo i v0)
    rw [vXk_0, vAdd_0]
  | o :: os, P, i, h => by
    simp only [List.length_cons] at h
    unfold addAll
    rw [vM_all a b os _ _ (by rw [addRow_len]; omega), vM_row a o b P i (by omega)]
    show _ = vAdd (vM n lo a P) (vXk n lo i (vAdd (vSc o (vM n lo a b)) (vX n lo (vM n lo (vM n lo a b) os))))
    rw [vXk_add, vXk_sc, vXk_X, vAdd_assoc]
    rfl
end
theorem red_ok (lol : List Int) (hn : 0 < lol.length) : ∀ (m : Nat) (P : List Int), lol.length + m ≤ P.length → vM lol.length (vL lol) vE ((redD lol m P).take lol.length) = vM lol.length (vL lol) vE (P.take (lol.length + m))
  | 0, P, _ => rfl
  | m + 1, P, h => by
    unfold redD
    have ht : P[lol.length + m]? = some (P.getD (lol.length + m) 0) := getD_some (by omega)
    generalize P.getD (lol.length + m) 0 = t at ht
    rw [red_ok lol hn m _ (by rw [addRow_len]; omega), addRow_take _ _ _ _ _ (by omega), vM_row _ _ _ _ _ (by rw [List.length_take]; omega)]
    have e : P.take (lol.length + (m + 1)) = P.take (lol.length + m) ++ [t] := by
      rw [← Nat.add_assoc, List.take_add_one, ht]
      rfl
    rw [e, vM_app, List.length_take, Nat.min_eq_left (by omega), vM_one, vM_short lol (Nat.le_refl _), Nat.add_comm lol.length m, vXk_plus, vXk_sc, vX_top lol rfl hn rfl]
    rw [vSc_sc, vXk_sc]
    congr 2
    grind
theorem times_ok (lol a b : List Int) (hn : 0 < lol.length) (ha : a.length = lol.length) (hb : b.length = lol.length) : (redD lol lol.length (addAll b (List.replicate (2 * lol.length) 0) 0 a)).take lol.length = tmL lol a b := by
  have h1 := red_ok lol hn lol.length (addAll b (List.replicate (2 * lol.length) 0) 0 a) (by rw [addAll_len, List.length_replicate]; omega)
  rw [List.take_of_length_le (l := addAll b (List.replicate (2 * lol.length) 0) 0 a) (by rw [addAll_len, List.length_replicate]; omega), vM_all _ _ _ _ _ (by rw [List.length_replicate]; omega), vM_rep, v0_add] at h1
  have hl : ((redD lol lol.length (addAll b (List.replicate (2 * lol.length) 0) 0 a)).take lol.length).length = lol.length := by
    rw [List.length_take, redD_len, addAll_len, List.length_replicate]; omega
  rw [vM_short _ (by omega)] at h1
  have h2 : vXk lol.length (vL lol) 0 (vM lol.length (vL lol) (vM lol.length (vL lol) vE b) a) = vT lol a b := by
    show vM lol.length (vL lol) (vM lol.length (vL lol) vE b) a = _
    rw [vT_eq ha, vM_M]
  rw [h2] at h1
  unfold tmL
  have h3 := lst_vL ((redD lol lol.length (addAll b (List.replicate (2 * lol.length) 0) 0 a)).take lol.length)
  rw [hl, h1] at h3
  exact h3.symm
/-! ### times: the walk's part -/
theorem iL_get (l : List Int) (i : Nat) : (iL l)[i]? = (l[i]?).map PyData.int := by simp [iL]
theorem iL_set (l : List Int) (i : Nat) (x : Int) : (iL l).set i (.int x) = iL (l.set i x) := by simp [iL, List.map_set]
theorem ixN_ok {n k : Nat} (h : k < n) : ixN n (k : Int) = some k := by
  unfold ixN
  rw [if_pos (by omega), if_pos (by omega)]
  simp
theorem aug_step {i : Nat} {g : Int → Int → Int} {fi fe : M Vd} {e : En} {P : List Int} {k : Nat} {n c : Int} (h : e[i]? = some (.ow false (iL P))) (hc : P[k]? = some c) (h1 : fi e = .ok (.dat (.int k)) e) (h2 : fe e = .ok (.dat (.int n)) e) :
    sItemAug i g fi fe e = .nx (e.set i (.ow false (iL (P.set k (g c n))))) := by
  have hk : k < P.length := (List.getElem?_eq_some_iff.mp hc).1
  unfold sItemAug
  rw [h, h1]
  have ho : oldAt i (some (.int (k : Int))) e = some ((k : Int), .int c) := by
    unfold oldAt
    rw [h]
    simp [iL_get, hc]
  simp only [R.o, rd, ho, h2]
  unfold putAt
  rw [h]
  simp [iL_len, ixN_ok hk, iL_set]
section
variable {p : Int} {lol : List Int}
theorem row_loop (r x y q l c one s11 : D) (i : Nat) (o : Int) (ho : inR o = true) : ∀ (b P : List Int) (j : Nat) (s9 s10 s : Sl), i + j + b.length ≤ P.length → ∃ t9 t10,
    forL (gT [9, 10]) (sItemAug 6 (· + ·) (eOp2 gAdd (eVar 7) (eVar 9)) (eOp2 gMul (eVar 8) (eVar 10))) (enumD j (iL b)) [.va r, .va x, .va y, .va q, .va l, .va c, .ow false (iL P), .va (.int i), .va (.int o), s9, s10, s] =
      .nx [.va r, .va x, .va y, .va q, .va l, .va c, .ow false (iL (addRow o P (i + j) b)), .va (.int i), .va (.int o), t9, t10, s]
  | [], P, j, s9, s10, s, _ => ⟨s9, s10, rfl⟩
  | d :: b, P, j, s9, s10, s, h => by
    simp only [List.length_cons] at h
    obtain ⟨t9, t10, e⟩ := row_loop r x y q l c one s11 i o ho b (P.set (i + j) (P.getD (i + j) 0 + o * d)) (j + 1) (.va (.int j)) (.va (.int d)) s (by simp; omega)
    refine ⟨t9, t10, ?_⟩
    have st := aug_step (i := 6) (g := (· + ·)) (fi := eOp2 gAdd (eVar 7) (eVar 9)) (fe := eOp2 gMul (eVar 8) (eVar 10)) (e := [.va r, .va x, .va y, .va q, .va l, .va c, .ow false (iL P), .va (.int i), .va (.int o), .va (.int j), .va (.int d), s]) (P := P) (k := i + j) (n := o * d) rfl (getD_some (by omega))
      (by simp [eOp2, eVar, R.bnd, rd, lift2, gAdd_ok]) (by simp [eOp2, eVar, R.bnd, rd, lift2, gMul, ho])
    show (match sItemAug 6 (· + ·) (eOp2 gAdd (eVar 7) (eVar 9)) (eOp2 gMul (eVar 8) (eVar 10)) [.va r, .va x, .va y, .va q, .va l, .va c, .ow false (iL P), .va (.int i), .va (.int o), .va (.int j), .va (.int d), s] with
      | .nx e => forL _ _ (enumD (j + 1) (iL b)) e
      | .ct e => forL _ _ (enumD (j + 1) (iL b)) e
      | .bk e => .nx e
      | o => o) = _
    rw [st]
    exact e
theorem all_loop (hp : 0 < p) (hm : p ≤ 31) (hn : lol.length ≤ 5) (x y q l c : D) (yy : Int) (hy : y = .int yy) (s : Sl) : ∀ (a P : List Int) (i : Nat) (s7 s8 s9 s10 : Sl), (∀ o ∈ a, inR o = true) → i + a.length + lol.length ≤ P.length + 1 → ∃ t7 t8 t9 t10,
    forL (gT [7, 8]) (sFor (lEnum (aCons (eCall (Ar 2 m_digits_of) (aCons (eVar 0) (aCons (eVar 2) (aNil)))) (aNil))) (gT [9, 10]) (sItemAug 6 (· + ·) (eOp2 gAdd (eVar 7) (eVar 9)) (eOp2 gMul (eVar 8) (eVar 10)))) (enumD i (iL a)) [.va (rgD p lol), .va x, .va y, .va q, .va l, .va c, .ow false (iL P), s7, s8, s9, s10, s] =
      .nx [.va (rgD p lol), .va x, .va y, .va q, .va l, .va c, .ow false (iL (addAll (dig p lol.length yy) P i a)), t7, t8, t9, t10, s]
  | [], P, i, s7, s8, s9, s10, _, _ => ⟨s7, s8, s9, s10, rfl⟩
  | o :: a, P, i, s7, s8, s9, s10, hr, h => by
    simp only [List.length_cons] at h
    obtain ⟨u9, u10, e1⟩ := row_loop (rgD p lol) x y q l c .none .none i o (hr o (by simp)) (dig p lol.length yy) P 0 s9 s10 s (by rw [dig_len]; omega)
    obtain ⟨t7, t8, t9, t10, e⟩ := all_loop hp hm hn x y q l c yy hy s a (addRow o P i (dig p lol.length yy)) (i + 1) (.va (.int i)) (.va (.int o)) u9 u10 (fun z hz => hr z (by simp [hz])) (by rw [addRow_len]; omega)
    refine ⟨t7, t8, t9, t10, ?_⟩
    have st : sFor (lEnum (aCons (eCall (Ar 2 m_digits_of) (aCons (eVar 0) (aCons (eVar 2) (aNil)))) (aNil))) (gT [9, 10]) (sItemAug 6 (· + ·) (eOp2 gAdd (eVar 7) (eVar 9)) (eOp2 gMul (eVar 8) (eVar 10))) [.va (rgD p lol), .va x, .va y, .va q, .va l, .va c, .ow false (iL P), .va (.int i), .va (.int o), s9, s10, s] =
        .nx [.va (rgD p lol), .va x, .va y, .va q, .va l, .va c, .ow false (iL (addRow o P i (dig p lol.length yy))), .va (.int i), .va (.int o), u9, u10, s] := by
      rw [← show i + 0 = i from rfl] at e1
      subst hy
      simp [sFor, lEnum, aCons, aNil, eCall, eVar, R.bnd, R.o, fzAll, fz, Ar, s_digits hp hm hn, seqOf]
      exact e1
    show (match sFor (lEnum (aCons (eCall (Ar 2 m_digits_of) (aCons (eVar 0) (aCons (eVar 2) (aNil)))) (aNil))) (gT [9, 10]) (sItemAug 6 (· + ·) (eOp2 gAdd (eVar 7) (eVar 9)) (eOp2 gMul (eVar 8) (eVar 10))) [.va (rgD p lol), .va x, .va y, .va q, .va l, .va c, .ow false (iL P), .va (.int i), .va (.int o), s9, s10, s] with
      | .nx e => forL _ _ (enumD (i + 1) (iL a)) e
      | .ct e => forL _ _ (enumD (i + 1) (iL a)) e
      | .bk e => .nx e
      | o => o) = _
    rw [st]
    exact e
theorem gIx_list {P : List Int} {k : Nat} {c : Int} (h : P[k]? = some c) : gIx (.list (iL P)) (.int k) = some (.int c) := by
  have hk : k < P.length := (List.getElem?_eq_some_iff.mp h).1
  show atI (iL P) (k : Int) = _
  unfold atI
  rw [iL_len, ixN_ok hk]
  show (iL P)[k]? = _
  rw [iL_get, h]
  rfl
theorem sub_loop (r x y q l : D) (m : Nat) (t : Int) (s9 s10 : Sl) (n : Nat) : ∀ (ls P : List Int) (j : Nat) (s7 s8 : Sl), (∀ o ∈ ls, inR o = true) → j + ls.length = n → n + m < P.length → P[n + m]? = some t → ∃ t7 t8,
    forL (gT [7, 8]) (sItemAug 6 (· - ·) (eOp2 gAdd (eOp2 gSub (eVar 11) (eVar 5)) (eVar 7)) (eOp2 gMul (eVar 8) (eOp2 gIx (eVar 6) (eVar 11)))) (enumD j (iL ls)) [.va r, .va x, .va y, .va q, .va l, .va (.int n), .ow false (iL P), s7, s8, s9, s10, .va (.int (n + m : Nat))] =
      .nx [.va r, .va x, .va y, .va q, .va l, .va (.int n), .ow false (iL (addRow (-t) P (m + j) ls)), t7, t8, s9, s10, .va (.int (n + m : Nat))]
  | [], P, j, s7, s8, _, _, _, _ => ⟨s7, s8, rfl⟩
  | o :: ls, P, j, s7, s8, hr, hj, hP, ht => by
    simp only [List.length_cons] at hj
    have e0 : P.getD (m + j) 0 - o * t = P.getD (m + j) 0 + -t * o := by grind
    obtain ⟨t7, t8, e⟩ := sub_loop r x y q l m t s9 s10 n ls (P.set (m + j) (P.getD (m + j) 0 + -t * o)) (j + 1) (.va (.int j)) (.va (.int o)) (fun z hz => hr z (by simp [hz])) (by omega) (by simpa using hP) (by rw [List.getElem?_set_ne (by omega)]; exact ht)
    refine ⟨t7, t8, ?_⟩
    have ho := hr o (by simp)
    have st := aug_step (i := 6) (g := (· - ·)) (fi := eOp2 gAdd (eOp2 gSub (eVar 11) (eVar 5)) (eVar 7)) (fe := eOp2 gMul (eVar 8) (eOp2 gIx (eVar 6) (eVar 11))) (e := [.va r, .va x, .va y, .va q, .va l, .va (.int n), .ow false (iL P), .va (.int j), .va (.int o), s9, s10, .va (.int (n + m : Nat))]) (P := P) (k := m + j) (n := o * t) rfl (getD_some (by omega))
      (by
        have e1 : ((n + m : Nat) : Int) - n + j = ((m + j : Nat) : Int) := by omega
        simp only [eOp2, eVar, R.bnd, rd, lift2, gSub, gAdd, List.getElem?_cons_succ, List.getElem?_cons_zero, e1])
      (by
        simp only [eOp2, eVar, R.bnd, rd, lift2, List.getElem?_cons_succ, List.getElem?_cons_zero, gIx_list ht, gMul, ho, Bool.true_or, if_true])
    show (match sItemAug 6 (· - ·) (eOp2 gAdd (eOp2 gSub (eVar 11) (eVar 5)) (eVar 7)) (eOp2 gMul (eVar 8) (eOp2 gIx (eVar 6) (eVar 11))) [.va r, .va x, .va y, .va q, .va l, .va (.int n), .ow false (iL P), .va (.int j), .va (.int o), s9, s10, .va (.int (n + m : Nat))] with
      | .nx e => forL _ _ (enumD (j + 1) (iL ls)) e
      | .ct e => forL _ _ (enumD (j + 1) (iL ls)) e
      | .bk e => .nx e
      | o => o) = _
    rw [st, e0]
    exact e
theorem red_loop (r x y q : D) (s9 s10 : Sl) (hr : ∀ o ∈ lol, inR o = true) : ∀ (m : Nat) (P : List Int) (s7 s8 s11 : Sl), lol.length + m ≤ P.length → ∃ t7 t8 t11,
    forL (gN 11) (sFor (lEnum (aCons (eVar 4) (aNil))) (gT [7, 8]) (sItemAug 6 (· - ·) (eOp2 gAdd (eOp2 gSub (eVar 11) (eVar 5)) (eVar 7)) (eOp2 gMul (eVar 8) (eOp2 gIx (eVar 6) (eVar 11))))) (rngC ((lol.length : Int) + m - 1) (-1) m) [.va r, .va x, .va y, .va q, .va (.tuple (iL lol)), .va (.int lol.length), .ow false (iL P), s7, s8, s9, s10, s11] =
      .nx [.va r, .va x, .va y, .va q, .va (.tuple (iL lol)), .va (.int lol.length), .ow false (iL (redD lol m P)), t7, t8, s9, s10, t11]
  | 0, P, s7, s8, s11, _ => ⟨s7, s8, s11, rfl⟩
  | m + 1, P, s7, s8, s11, h => by
    obtain ⟨u7, u8, e1⟩ := sub_loop r x y q (.tuple (iL lol)) m (P.getD (lol.length + m) 0) s9 s10 lol.length lol P 0 s7 s8 hr (by omega) (by omega) (getD_some (by omega))
    obtain ⟨t7, t8, t11, e⟩ := red_loop r x y q s9 s10 hr m (addRow (-(P.getD (lol.length + m) 0)) P m lol) u7 u8 (.va (.int (lol.length + m : Nat))) (by rw [addRow_len]; omega)
    refine ⟨t7, t8, t11, ?_⟩
    have e2 : ((lol.length : Int) + ((m + 1 : Nat) : Int) - 1) = ((lol.length + m : Nat) : Int) := by omega
    have e3 : ((lol.length + m : Nat) : Int) + -1 = (lol.length : Int) + m - 1 := by omega
    have st : sFor (lEnum (aCons (eVar 4) (aNil))) (gT [7, 8]) (sItemAug 6 (· - ·) (eOp2 gAdd (eOp2 gSub (eVar 11) (eVar 5)) (eVar 7)) (eOp2 gMul (eVar 8) (eOp2 gIx (eVar 6) (eVar 11)))) [.va r, .va x, .va y, .va q, .va (.tuple (iL lol)), .va (.int lol.length), .ow false (iL P), s7, s8, s9, s10, .va (.int (lol.length + m : Nat))] =
        .nx [.va r, .va x, .va y, .va q, .va (.tuple (iL lol)), .va (.int lol.length), .ow false (iL (addRow (-(P.getD (lol.length + m) 0)) P m lol)), u7, u8, s9, s10, .va (.int (lol.length + m : Nat))] := by
      exact e1
    rw [e2]
    show (match sFor (lEnum (aCons (eVar 4) (aNil))) (gT [7, 8]) (sItemAug 6 (· - ·) (eOp2 gAdd (eOp2 gSub (eVar 11) (eVar 5)) (eVar 7)) (eOp2 gMul (eVar 8) (eOp2 gIx (eVar 6) (eVar 11)))) [.va r, .va x, .va y, .va q, .va (.tuple (iL lol)), .va (.int lol.length), .ow false (iL P), s7, s8, s9, s10, .va (.int (lol.length + m : Nat))] with
      | .nx e => forL _ _ (rngC (((lol.length + m : Nat) : Int) + -1) (-1) m) e
      | .ct e => forL _ _ (rngC (((lol.length + m : Nat) : Int) + -1) (-1) m) e
      | .bk e => .nx e
      | o => o) = _
    rw [st, e3]
    exact e
theorem s_times (h : Rg p lol) (x y : Int) : m_times [rgD p lol, .int x, .int y] = .ok (.int (tmE p lol x y)) := by
  have hp : 0 < p := by have := h.p2; omega
  have hm := h.pm
  have hn := h.nm
  have h1 := h.n1
  have hrl : ∀ o ∈ lol, inR o = true := fun o ho => inR_31 (h.lo o ho).1 (by have := (h.lo o ho).2; omega)
  have hra : ∀ o ∈ dig p lol.length x, inR o = true := fun o ho => inR_31 (dig_bnd hp _ _ _ ho).1 (by have := (dig_bnd hp _ _ _ ho).2; omega)
  obtain ⟨t7, t8, t9, t10, e1⟩ := all_loop (p := p) (lol := lol) hp hm hn (.int x) (.int y) (.int p) (.tuple (iL lol)) (.int lol.length) y rfl .no (dig p lol.length x) (List.replicate (2 * lol.length) 0) 0 .no .no .no .no hra (by rw [dig_len, List.length_replicate]; omega)
  obtain ⟨u7, u8, u11, e2⟩ := red_loop (lol := lol) (rgD p lol) (.int x) (.int y) (.int p) t9 t10 hrl lol.length (addAll (dig p lol.length y) (List.replicate (2 * lol.length) 0) 0 (dig p lol.length x)) t7 t8 .no (by rw [addAll_len, List.length_replicate]; omega)
  show (g_times [.va (rgD p lol), .va (.int x), .va (.int y), .no, .no, .no, .no, .no, .no, .no, .no, .no]).f = _
  unfold g_times
  refine seq_f [.va (rgD p lol), .va (.int x), .va (.int y), .va (.int p), .va (.tuple (iL lol)), .no, .no, .no, .no, .no, .no, .no] rfl ?_
  refine seq_f [.va (rgD p lol), .va (.int x), .va (.int y), .va (.int p), .va (.tuple (iL lol)), .va (.int lol.length), .no, .no, .no, .no, .no, .no] ?_ ?_
  · show sSet 5 (eB gLen (aCons (eVar 4) aNil)) _ = _
    simp [sSet, eB, aCons, aNil, eVar, R.bnd, R.o, rdAll, rd, gLen, fz, iL_len]
  refine seq_f [.va (rgD p lol), .va (.int x), .va (.int y), .va (.int p), .va (.tuple (iL lol)), .va (.int lol.length), .ow false (iL (List.replicate (2 * lol.length) 0)), .no, .no, .no, .no, .no] ?_ ?_
  · have q0 : szL 1 = true := rfl
    have q1 : inR (2 : Int) = true := rfl
    have q2 : inK (2 * (lol.length : Int)) = true := by unfold inK; rw [Nat.blt_eq]; omega
    have q3 : (2 * (lol.length : Int)).toNat = 2 * lol.length := by omega
    have q4 : szL (2 * lol.length) = true := szL_ok (by omega)
    have q5 : (List.replicate (2 * lol.length) [PyData.int 0]).flatten = iL (List.replicate (2 * lol.length) 0) := by
      generalize 2 * lol.length = m
      induction m with
      | zero => rfl
      | succ m ih => rw [List.replicate_succ, List.replicate_succ, List.flatten_cons, ih]; rfl
    simp [sOwn, nOp2, eN, nLst, aCons, aNil, eC, eVar, eOp2, R.bnd, R.o, rd, lift2, fzAll, fz, gMul, q1, nRep, q2, q3, q4, q5, q0]
  refine seq_f [.va (rgD p lol), .va (.int x), .va (.int y), .va (.int p), .va (.tuple (iL lol)), .va (.int lol.length), .ow false (iL (addAll (dig p lol.length y) (List.replicate (2 * lol.length) 0) 0 (dig p lol.length x))), t7, t8, t9, t10, .no] ?_ (seq_f [.va (rgD p lol), .va (.int x), .va (.int y), .va (.int p), .va (.tuple (iL lol)), .va (.int lol.length), .ow false (iL (redD lol lol.length (addAll (dig p lol.length y) (List.replicate (2 * lol.length) 0) 0 (dig p lol.length x)))), u7, u8, t9, t10, u11] ?_ ?_)
  · rw [← e1]
    simp [sFor, lEnum, aCons, aNil, eCall, eVar, R.bnd, R.o, fzAll, fz, Ar, s_digits hp hm hn, seqOf]
  · have q1 : inR (2 : Int) = true := rfl
    have q3 : (2 * (lol.length : Int) - 1 - ((lol.length : Int) - 1)).toNat = lol.length := by omega
    have q4 : 2 * (lol.length : Int) - 1 = (lol.length : Int) + lol.length - 1 := by omega
    have q5 : small62 (2 * (lol.length : Int) - 1) = true := by unfold small62; rw [Nat.blt_eq]; omega
    have q6 : small62 ((lol.length : Int) - 1) = true := by unfold small62; rw [Nat.blt_eq]; omega
    have q7 : szL lol.length = true := szL_ok (by omega)
    rw [← e2, ← q4]
    simp [sFor, lRng, aCons, aNil, eC, eVar, eOp2, eOp1, gNeg, lift1, R.bnd, R.o, rd, lift2, rdI, rng3, gMul, gSub, q1, q5, q6, q3, q7]
  · have e3 := s_element (lol := lol) hp hm (tmL lol (dig p lol.length x) (dig p lol.length y))
    rw [← times_ok lol _ _ (by omega) (dig_len _ _ _) (dig_len _ _ _)] at e3
    have e4 := times_ok lol _ _ (by omega) (dig_len p _ x) (dig_len p _ y)
    have e5 := redD_len lol lol.length (addAll (dig p lol.length y) (List.replicate (2 * lol.length) 0) 0 (dig p lol.length x))
    rw [addAll_len, List.length_replicate] at e5
    unfold tmE
    rw [← e4]
    generalize redD lol lol.length (addAll (dig p lol.length y) (List.replicate (2 * lol.length) 0) 0 (dig p lol.length x)) = P at e3 e5
    have e6 : cutD (iL P) none (some (lol.length : Int)) = iL (P.take lol.length) := by
      unfold cutD
      simp [HT.sIx, iL, e5]
      rw [if_neg (by omega), Nat.min_eq_left (by omega)]
    simp [sRet, eCall, aCons, aNil, eVar, R.bnd, R.o, eCut, oNone, oSome, rd, lift1, gCut, fzAll, fz, Ar, e6, e3, O.f]
end
end Pf
namespace Pf
open PySem PySem.Spec PyProof.Rows L2
theorem gEq_int (a b : Int) : gEq (.int a) (.int b) = some (.bool (a == b)) := rfl
theorem gNe_int (a b : Int) : gNe (.int a) (.int b) = some (.bool (!(a == b))) := rfl
/-- a whole ring -/
structure Rv (p : Int) (lol : List Int) : Prop extends Rg p lol where
  pr : p ∈ ([2, 3, 5, 7, 11, 13, 17, 19, 23, 29, 31] : List Int)
  sz : p ^ lol.length ≤ 32
section
variable {p : Int} {lol : List Int}
theorem Rg.pos (h : Rg p lol) : 0 < p := by have := h.p2; omega
/-! minus -/
theorem min_loop (e0 : List Sl) (h0 : e0.length = 2) : ∀ (a : List Int), lcL (gN 2) bYes (eOp2 gSub (eC (.int 0)) (eVar 2)) [2] (iL a) (e0 ++ [.no]) = .ok (iL (a.map (0 - ·))) (e0 ++ [.no])
  | [] => by simp [iL, lcL]
  | x :: a => by
    have ih := min_loop e0 h0 a
    match e0, h0 with
    | [s0, s1], _ =>
      simp [iL] at ih
      simp [iL, lcL, gN, noX, bYes, eOp2, eVar, eC, R.bnd, rd, lift2, gSub, fz, wipeE, ih]
theorem s_minus (h : Rg p lol) (x : Int) : m_minus [rgD p lol, .int x] = .ok (.int (miE p lol.length x)) := by
  have h1 := min_loop [.va (rgD p lol), .va (.int x)] rfl (dig p lol.length x)
  have hn := h.nm
  have e1 := s_digits (lol := lol) h.pos h.pm hn x
  have e3 := s_element (lol := lol) h.pos h.pm ((dig p lol.length x).map (0 - ·))
  have hz : szL (iL (dig p lol.length x)).length = true := szL_ok (by rw [iL_len, dig_len]; omega)
  show (g_minus [.va (rgD p lol), .va (.int x), .no]).f = _
  unfold g_minus
  simp only [List.cons_append, List.nil_append] at h1
  simp only [sRet, eCall, aCons, aNil, eVar, R.bnd, R.o, eN, nLc, lSeq, itemsOf, fzAll, fz, Ar, e1, hz, plainAt, plainS, wipeE, h1, backE, e3, miE, O.f, List.getElem?_cons_zero, List.getElem?_cons_succ, List.length_cons, List.length_nil, if_true, Bool.true_and, List.all_cons, List.all_nil, Bool.and_true, List.set_cons_succ, List.set_cons_zero, Option.getD_some]
/-! sizes -/
theorem tms_loop (c : D) (hi : inR p = true) : ∀ (m : Nat) (lo r : Int) (s : Sl), ∃ s', forL (gN 3) (sSet 2 (eOp2 gMulI (eVar 2) (eVar 0))) (rngD lo m) [.va (.int p), .va c, .va (.int r), s] = .nx [.va (.int p), .va c, .va (.int (r * p ^ m)), s']
  | 0, lo, r, s => ⟨s, by simp [rngD, forL]⟩
  | m + 1, lo, r, s => by
    obtain ⟨s', e⟩ := tms_loop c hi m (lo + 1) (r * p) (.va (.int lo))
    refine ⟨s', ?_⟩
    have e2 : r * p ^ (m + 1) = r * p * p ^ m := by rw [Int.pow_succ, Int.mul_comm (p ^ m) p, Int.mul_assoc]
    rw [e2, ← e]
    simp [rngD, forL, gN, sSet, eOp2, eVar, R.bnd, R.o, rd, lift2, gMulI, hi, fz]
theorem s_tms (hi : inR p = true) (m : Nat) (hm : m ≤ 10000) : m_times_itself [.int p, .int m] = .ok (.int (p ^ m)) := by
  obtain ⟨s', e⟩ := tms_loop (.int m) hi m 0 1 .no
  rw [Int.one_mul] at e
  show (g_times_itself [.va (.int p), .va (.int m), .no, .no]).f = _
  unfold g_times_itself
  refine seq_f [.va (.int p), .va (.int m), .va (.int 1), .no] rfl (seq_f [.va (.int p), .va (.int m), .va (.int (p ^ m)), s'] ?_ rfl)
  rw [← e]
  have q1 : small62 (m : Int) = true := by unfold small62; rw [Nat.blt_eq]; omega
  have q2 : szL m = true := szL_ok hm
  simp [sFor, lRng, aCons, aNil, eVar, R.bnd, R.o, rdI, rd, rng1, q1, q2]
theorem s_size_of (h : Rg p lol) : m_size_of [rgD p lol] = .ok (.int (p ^ lol.length)) := by
  have hn := h.nm
  have e := s_tms (p := p) (inR_31 (by have := h.p2; omega) h.pm) lol.length (by omega)
  show (g_size_of [.va (rgD p lol)]).f = _
  unfold g_size_of
  simp [sRet, eCall, aCons, aNil, eVar, eC, eOp2, R.bnd, R.o, rd, lift2, ix0, ix1, eB, rdAll, gLen, iL_len, fzAll, fz, Ar, e, O.f]
theorem s_isint (v lo hi : Int) : m_is_integer [.int v, .int lo, .int hi] = .ok (.bool (decide (lo ≤ v) && decide (v ≤ hi))) := by
  show (g_is_integer [.va (.int v), .va (.int lo), .va (.int hi)]).f = _
  unfold g_is_integer
  have k1 : kInt (tyD (.int v)) = true := show kInt "int" = true by decide +kernel
  have k2 : kBool (tyD (.int v)) = false := show kBool "int" = false by decide +kernel
  by_cases h1 : lo ≤ v <;> by_cases h2 : v ≤ hi <;> simp [sRet, eAnd, eOp1, eNot, eChain, eVar, R.bnd, R.o, rd, lift1, lift2, gIsi, k1, k2, gLe, gCmp, fz, O.f, h1, h2]
/-! the test of rings -/
theorem isr_loop (v : D) (hp : 0 < p) : ∀ (a : List Int), (∀ c ∈ a, 0 ≤ c ∧ c < p) → ∀ l : D, lcL (gN 3) bYes (eCall (Ar 3 m_is_integer) (aCons (eVar 3) (aCons (eC (.int 0)) (aCons (eOp2 gSub (eVar 1) (eC (.int 1))) (aNil))))) [3] (iL a) [.va v, .va (.int p), .va l, .no] = .ok (a.map fun _ => .bool true) [.va v, .va (.int p), .va l, .no]
  | [], _, l => by simp [iL, lcL]
  | x :: a, h, l => by
    have ih := isr_loop v hp a (fun c hc => h c (by simp [hc])) l
    obtain ⟨x0, x1⟩ := h x (by simp)
    have e := s_isint x 0 (p - 1)
    have e2 : (decide (0 ≤ x) && decide (x ≤ p - 1)) = true := by simp; omega
    rw [e2] at e
    simp [iL] at ih
    simp [iL, lcL, gN, noX, bYes, eOp2, eVar, eC, eCall, aCons, aNil, R.bnd, rd, lift2, gSub, fz, fzAll, Ar, e, wipeE, ih]
theorem bools_true : ∀ a : List Int, bools (a.map fun _ => PyData.bool true) = some (a.map fun _ => true)
  | [] => rfl
  | _ :: a => by rw [List.map_cons, List.map_cons]; unfold bools; rw [bools_true a]; rfl
theorem s_is_ring (h : Rv p lol) : m_is_ring [rgD p lol] = .ok (.bool true) := by
  have hp := h.pos
  have hm := h.pm
  have h2 := h.p2
  have hn := h.nm
  have hn1 := h.n1
  have e1 := s_isint p 2 31
  have e1' : (decide (2 ≤ p) && decide (p ≤ 31)) = true := by simp; omega
  rw [e1'] at e1
  have e2 : gNotIn (.int p) (.tuple [.int 2, .int 3, .int 5, .int 7, .int 11, .int 13, .int 17, .int 19, .int 23, .int 29, .int 31]) = some (.bool false) := by
    have hpr := h.pr
    simp only [List.mem_cons, List.not_mem_nil, or_false] at hpr
    rcases hpr with rfl | rfl | rfl | rfl | rfl | rfl | rfl | rfl | rfl | rfl | rfl <;> rfl
  have e3 := s_tms (p := p) (inR_31 (by omega) hm) lol.length (by omega)
  have k1 : kTup (tyD (rgD p lol)) = true := show kTup "tuple" = true by decide +kernel
  have k2 : kTup (tyD (.tuple (iL lol))) = true := show kTup "tuple" = true by decide +kernel
  have e5 := isr_loop (rgD p lol) hp lol h.lo (.tuple (iL lol))
  have e6 := bools_true lol
  have hz : szL lol.length = true := szL_ok (by omega)
  have hs := h.sz
  show (g_is_ring [.va (rgD p lol), .no, .no, .no]).f = _
  unfold g_is_ring
  refine seq_f [.va (rgD p lol), .no, .no, .no] ?_ (seq_f [.va (rgD p lol), .va (.int p), .va (.tuple (iL lol)), .no] rfl (seq_f [.va (rgD p lol), .va (.int p), .va (.tuple (iL lol)), .no] ?_ ?_))
  · have g1 : gIsi kTup (rgD p lol) = some (.bool true) := by
      show some (PyData.bool (kTup (tyD (rgD p lol)))) = _
      rw [k1]
    have g2 : gLen [rgD p lol] = some (.int 2) := rfl
    simp [sIf, bOr, bNot, bT, eOp1, eOp2, eB, eVar, eC, aCons, aNil, R.bnd, R.o, rd, rdAll, lift1, lift2, g1, g2, gNe_int, sNil]
  · have g1 : gIsi kTup (.tuple (iL lol)) = some (.bool true) := by
      show some (PyData.bool (kTup (tyD (.tuple (iL lol))))) = _
      rw [k2]
    have q1 : (1 : Int) ≤ (lol.length : Int) := by omega
    have q2 : (lol.length : Int) ≤ 5 := by omega
    simp [sIf, bOr, bNot, bT, eOp1, eOp2, eB, eVar, eC, aCons, aNil, eCall, fzAll, fz, Ar, R.bnd, R.o, rd, rdAll, lift1, lift2, e1, e2, g1, eChain, gLen, iL_len, gLe, gCmp, q1, q2, sNil]
  · have q3 : decide (p ^ lol.length ≤ 32) = true := decide_eq_true hs
    have q4 : ((lol.map fun _ => true).all id) = true := by simp
    simp only [sRet, eAnd, eOp2, eCall, aCons, aNil, eVar, eC, eB, R.bnd, R.o, rd, rdAll, gLen, iL_len, fzAll, fz, Ar, e3, lift2, gLe, gCmp, q3, eN, nLc, lSeq, itemsOf, plainAt, plainS, wipeE, backE, e5, e6, gAll, q4, O.f, List.getElem?_cons_zero, List.getElem?_cons_succ, List.length_cons, List.length_nil, if_true, Bool.true_and, List.all_cons, List.all_nil, Bool.and_true, List.set_cons_succ, List.set_cons_zero, Option.getD_some, hz]
theorem s_check_ring (h : Rv p lol) : m_check_ring [rgD p lol] = .ok .none := by
  show (g_check_ring [.va (rgD p lol)]).f = _
  unfold g_check_ring
  simp [sIf, bNot, bT, eCall, aCons, aNil, eVar, R.bnd, R.o, fzAll, fz, Ar, s_is_ring h, rd, sNil, O.f]
theorem s_size (h : Rv p lol) : m_size [rgD p lol] = .ok (.int (p ^ lol.length)) := by
  show (g_size [.va (rgD p lol)]).f = _
  unfold g_size
  simp [sSeq, sDrop, sRet, eCall, aCons, aNil, eVar, R.bnd, R.o, fzAll, fz, Ar, s_check_ring h, s_size_of h.toRg, O.f]
theorem s_check_element (h : Rg p lol) {x : Int} (h0 : 0 ≤ x) (h1 : x < p ^ lol.length) : m_check_element [rgD p lol, .int x] = .ok .none := by
  have e := s_isint x 0 (p ^ lol.length - 1)
  have e2 : (decide (0 ≤ x) && decide (x ≤ p ^ lol.length - 1)) = true := by simp; omega
  rw [e2] at e
  show (g_check_element [.va (rgD p lol), .va (.int x)]).f = _
  unfold g_check_element
  simp [sIf, bNot, bT, eCall, aCons, aNil, eVar, eC, eOp2, gSub, lift2, R.bnd, R.o, fzAll, fz, Ar, s_size_of h, e, rd, sNil, O.f]
theorem s_check_two (h : Rv p lol) {x y : Int} (h0 : 0 ≤ x) (h1 : x < p ^ lol.length) (h2 : 0 ≤ y) (h3 : y < p ^ lol.length) : m_check_two [rgD p lol, .int x, .int y] = .ok .none := by
  show (g_check_two [.va (rgD p lol), .va (.int x), .va (.int y)]).f = _
  unfold g_check_two
  simp [sSeq, sDrop, eCall, aCons, aNil, eVar, R.bnd, R.o, fzAll, fz, Ar, s_check_ring h, s_check_element h.toRg h0 h1, s_check_element h.toRg h2 h3, O.f]
theorem s_add (h : Rv p lol) {x y : Int} (h0 : 0 ≤ x) (h1 : x < p ^ lol.length) (h2 : 0 ≤ y) (h3 : y < p ^ lol.length) : m_add [rgD p lol, .int x, .int y] = .ok (.int (plE p lol.length x y)) := by
  show (g_add [.va (rgD p lol), .va (.int x), .va (.int y)]).f = _
  unfold g_add
  simp [sSeq, sDrop, sRet, eCall, aCons, aNil, eVar, R.bnd, R.o, fzAll, fz, Ar, s_check_two h h0 h1 h2 h3, s_plus h.pos h.pm h.nm, O.f]
theorem s_multiply (h : Rv p lol) {x y : Int} (h0 : 0 ≤ x) (h1 : x < p ^ lol.length) (h2 : 0 ≤ y) (h3 : y < p ^ lol.length) : m_multiply [rgD p lol, .int x, .int y] = .ok (.int (tmE p lol x y)) := by
  show (g_multiply [.va (rgD p lol), .va (.int x), .va (.int y)]).f = _
  unfold g_multiply
  simp [sSeq, sDrop, sRet, eCall, aCons, aNil, eVar, R.bnd, R.o, fzAll, fz, Ar, s_check_two h h0 h1 h2 h3, s_times h.toRg, O.f]
theorem s_negative (h : Rv p lol) {x : Int} (h0 : 0 ≤ x) (h1 : x < p ^ lol.length) : m_negative [rgD p lol, .int x] = .ok (.int (miE p lol.length x)) := by
  show (g_negative [.va (rgD p lol), .va (.int x)]).f = _
  unfold g_negative
  simp [sSeq, sDrop, sRet, eCall, aCons, aNil, eVar, R.bnd, R.o, fzAll, fz, Ar, s_check_ring h, s_check_element h.toRg h0 h1, s_minus h.toRg, O.f]
end
end Pf
namespace Pf
open PySem PySem.Spec PyProof.Rows L2
theorem coefs_eq : m__law_coefs = m_digits_of := rfl
theorem code_eq : m__law_code = m_element_of := rfl
theorem sum_eq : m__law_sum_here = m_plus := rfl
theorem lQ_of {p : Int} : ∀ {l m : List Int}, l.length = m.length → (∀ (i : Nat) (x y : Int), l[i]? = some x → m[i]? = some y → x % p = y % p) → lQ p l m
  | [], [], _, _ => trivial
  | [], _ :: _, h, _ => by simp at h
  | _ :: _, [], h, _ => by simp at h
  | a :: l, b :: m, h, k => ⟨k 0 a b rfl rfl, lQ_of (by simpa using h) fun i x y h1 h2 => k (i + 1) x y (by simpa using h1) (by simpa using h2)⟩
theorem lQ_at {p : Int} : ∀ {l m : List Int} {i : Nat} {x y : Int}, lQ p l m → l[i]? = some x → m[i]? = some y → x % p = y % p
  | [], [], i, x, y, _, h, _ => by simp at h
  | [], _ :: _, _, _, _, q, _, _ => q.elim
  | _ :: _, [], _, _, _, q, _, _ => q.elim
  | a :: l, b :: m, 0, x, y, q, h1, h2 => by
    simp at h1 h2
    subst h1 h2
    exact q.1
  | a :: l, b :: m, i + 1, x, y, q, h1, h2 => lQ_at q.2 (by simpa using h1) (by simpa using h2)
section
variable {p : Int} {lol : List Int}
def pTot (p f : Int) (T H : List Int) : List Int := List.zipWith (fun a b => (a + f * b) % p) T H
def pHere (p : Int) (lol H : List Int) : List Int := List.zipWith (fun a l => (a - H.getD (H.length - 1) 0 * l) % p) (0 :: H.dropLast) lol
def pRun (p : Int) (lol : List Int) : List Int → List Int → List Int → List Int
  | T, _, [] => T
  | T, H, f :: fs => pRun p lol (pTot p f T H) (pHere p lol H) fs
theorem emm (a p : Int) : a % p % p = a % p := Int.emod_emod_of_dvd _ (Int.dvd_refl p)
theorem pTot_Q {t h : Ve} {T H : List Int} {n : Nat} (f : Int) (hT : lQ p T (lst n t)) (hH : lQ p H (lst n h)) : lQ p (pTot p f T H) (lst n (vAdd t (vSc f h))) := by
  have lT := (lQ_len hT).trans (lst_len n t)
  have lH := (lQ_len hH).trans (lst_len n h)
  refine lQ_of (by unfold pTot; rw [List.length_zipWith, lst_len]; omega) fun i x y h1 h2 => ?_
  have hi : i < n := by
    have := (List.getElem?_eq_some_iff.mp h2).1
    rw [lst_len] at this
    exact this
  rw [lst_get n _ i hi] at h2
  cases h2
  unfold pTot at h1
  rw [List.getElem?_zipWith, List.getElem?_eq_getElem (by omega), List.getElem?_eq_getElem (by omega)] at h1
  cases h1
  rw [emm]
  exact emod_add (lQ_at hT (List.getElem?_eq_getElem (by omega)) (lst_get n t i hi)) (emod_mul rfl (lQ_at hH (List.getElem?_eq_getElem (by omega)) (lst_get n h i hi)))
theorem pHere_Q {h : Ve} {H : List Int} (hn : 0 < lol.length) (hH : lQ p H (lst lol.length h)) : lQ p (pHere p lol H) (lst lol.length (vX lol.length (vL lol) h)) := by
  have lH := (lQ_len hH).trans (lst_len _ h)
  refine lQ_of (by unfold pHere; rw [List.length_zipWith, lst_len]; simp; omega) fun i x y h1 h2 => ?_
  have hi : i < lol.length := by
    have := (List.getElem?_eq_some_iff.mp h2).1
    rw [lst_len] at this
    exact this
  rw [lst_get _ _ i hi] at h2
  cases h2
  unfold pHere at h1
  rw [List.getElem?_zipWith, List.getElem?_eq_getElem (l := lol) hi, List.getElem?_eq_getElem (l := 0 :: H.dropLast) (by simp; omega)] at h1
  cases h1
  rw [emm]
  unfold vX
  rw [if_pos hi]
  have e2 : vL lol i = lol[i] := by simp [vL, hi]
  rw [e2]
  have top : H.getD (H.length - 1) 0 % p = h (lol.length - 1) % p := lQ_at hH (getD_some (by omega)) (by rw [lH]; exact lst_get _ h _ (by omega))
  refine emod_sub ?_ (emod_mul top rfl)
  cases i with
  | zero => simp
  | succ i =>
    rw [if_neg (by omega)]
    have : (0 :: H.dropLast)[i + 1]'(by simp; omega) = H[i]'(by omega) := by simp
    rw [this]
    exact lQ_at hH (List.getElem?_eq_getElem (by omega)) (lst_get _ h i (by omega))
theorem pRun_Q (hn : 0 < lol.length) : ∀ (fs : List Int) {t h : Ve} {T H : List Int}, lQ p T (lst lol.length t) → lQ p H (lst lol.length h) → lQ p (pRun p lol T H fs) (lst lol.length (vAdd t (vM lol.length (vL lol) h fs)))
  | [], t, h, T, H, hT, _ => by
    show lQ p T (lst lol.length (vAdd t v0))
    rw [vAdd_0]
    exact hT
  | f :: fs, t, h, T, H, hT, hH => by
    have := pRun_Q hn fs (pTot_Q f hT hH) (pHere_Q hn hH)
    rw [vM_X, vAdd_assoc] at this
    exact this
theorem pRun_ok (hn : 0 < lol.length) (x y : Int) : cod p (pRun p lol (lol.map fun _ => 0) (dig p lol.length x) (dig p lol.length y)) = tmE p lol x y := by
  unfold tmE tmL
  apply cod_Q
  have h1 : lQ p (lol.map fun _ => 0) (lst lol.length v0) := by
    refine lQ_of (by simp [lst_len]) fun i a b h1 h2 => ?_
    have hi : i < lol.length := by simpa using (List.getElem?_eq_some_iff.mp h1).1
    rw [lst_get _ _ _ hi] at h2
    cases h2
    simp [hi] at h1
    subst h1
    rfl
  have h2 : lQ p (dig p lol.length x) (lst lol.length (vL (dig p lol.length x))) := by
    have := lst_vL (dig p lol.length x)
    rw [dig_len] at this
    rw [this]
    exact lQ_refl _
  have := pRun_Q hn (dig p lol.length y) h1 h2
  rw [v0_add] at this
  exact this
/-! the walk's part -/
theorem zip1_loop (s0 s1 s2 s3 s5 s8 s9 : Sl) (f : Int) (hs : s0 = .va (rgD p lol)) (hp : 0 < p) (hf : inR f = true) : ∀ (a b : List Int), lcL (gT [4, 7]) bYes (eOp2 gMod (eOp2 gAdd (eVar 4) (eOp2 gMul (eVar 6) (eVar 7))) (eOp2 gIx (eVar 0) (eC (.int 0)))) [4, 7] (zipD (iL a) (iL b)) [s0, s1, s2, s3, .no, s5, .va (.int f), .no, s8, s9] =
    .ok (iL (pTot p f a b)) [s0, s1, s2, s3, .no, s5, .va (.int f), .no, s8, s9]
  | [], _ => by simp [iL, zipD, lcL, pTot]
  | _ :: _, [] => by simp [iL, zipD, lcL, pTot]
  | x :: a, y :: b => by
    have ih := zip1_loop s0 s1 s2 s3 s5 s8 s9 f hs hp hf a b
    subst hs
    simp [iL] at ih
    simp [iL, zipD, lcL, gT, setAll, noX, bYes, eOp2, eVar, eC, R.bnd, rd, lift2, gAdd_ok, gMul, hf, ix0, gMod_ok hp, fz, wipeE, ih, pTot]
theorem zip2_loop (s0 s1 s2 s3 s5 s6 s7 : Sl) (t : Int) (hs : s0 = .va (rgD p lol)) (hp : 0 < p) : ∀ (a b : List Int), (∀ c ∈ b, inR c = true) → lcL (gT [4, 9]) bYes (eOp2 gMod (eOp2 gSub (eVar 4) (eOp2 gMul (eVar 8) (eVar 9))) (eOp2 gIx (eVar 0) (eC (.int 0)))) [4, 9] (zipD (iL a) (iL b)) [s0, s1, s2, s3, .no, s5, s6, s7, .va (.int t), .no] =
    .ok (iL (List.zipWith (fun a l => (a - t * l) % p) a b)) [s0, s1, s2, s3, .no, s5, s6, s7, .va (.int t), .no]
  | [], _, _ => by simp [iL, zipD, lcL]
  | _ :: _, [], _ => by simp [iL, zipD, lcL]
  | x :: a, y :: b, hr => by
    have ih := zip2_loop s0 s1 s2 s3 s5 s6 s7 t hs hp a b fun c hc => hr c (by simp [hc])
    have hy := hr y (by simp)
    subst hs
    simp [iL] at ih
    simp [iL, zipD, lcL, gT, setAll, noX, bYes, eOp2, eVar, eC, R.bnd, rd, lift2, gSub, gMul, hy, ix0, gMod_ok hp, fz, wipeE, ih]
theorem gIx_last {H : List Int} (h : 0 < H.length) : gIx (.list (iL H)) (.int (-1)) = some (.int (H.getD (H.length - 1) 0)) := by
  show atI (iL H) (-1) = _
  unfold atI ixN
  rw [iL_len, if_neg (by omega), if_pos (by omega)]
  have e : (-1 + (H.length : Int)).toNat = H.length - 1 := by omega
  show (iL H)[(-1 + (H.length : Int)).toNat]? = _
  rw [e, iL_get, getD_some (by omega)]
  rfl
theorem cut_last {H : List Int} (h : 0 < H.length) : cutD (iL H) none (some (-1)) = iL H.dropLast := by
  unfold cutD
  have e : HT.sIx (iL H).length (iL H).length (some (-1)) = H.length - 1 := by
    rw [iL_len]
    show (if (-1 : Int) < 0 then ((-1 : Int) + (H.length : Int)).toNat else min ((-1 : Int)).toNat H.length) = _
    rw [if_pos (by omega)]
    omega
  rw [e]
  simp [HT.sIx, iL, List.dropLast_eq_take]
theorem prod_loop (hp : 0 < p) (hn : 0 < lol.length) (hm : lol.length ≤ 5) (hl : ∀ c ∈ lol, inR c = true) (x y : D) : ∀ (fs T H : List Int) (s6 s8 : Sl), (∀ c ∈ fs, inR c = true) → T.length = lol.length → H.length = lol.length → ∃ H' t6 t8,
    forL (gN 6) (sSeq (sSet 3 (eN (nLc (lZip (aCons (eVar 3) (aCons (eVar 5) (aNil)))) (gT [4, 7]) (bYes) (eOp2 gMod (eOp2 gAdd (eVar 4) (eOp2 gMul (eVar 6) (eVar 7))) (eOp2 gIx (eVar 0) (eC (.int 0)))) [4, 7])))
  (sSeq (sSet 8 (eOp2 gIx (eVar 5) (eOp1 gNeg (eC (.int 1)))))
  (sSet 5 (eN (nLc (lZip (aCons (eOp2 gAdd (eN (nLst (aCons (eC (.int 0)) (aNil)))) (eCut (eVar 5) (oNone) (oSome (eOp1 gNeg (eC (.int 1)))))) (aCons (eOp2 gIx (eVar 0) (eC (.int 1))) (aNil)))) (gT [4, 9]) (bYes) (eOp2 gMod (eOp2 gSub (eVar 4) (eOp2 gMul (eVar 8) (eVar 9))) (eOp2 gIx (eVar 0) (eC (.int 0)))) [4, 9]))))) (iL fs) [.va (rgD p lol), .va x, .va y, .va (.list (iL T)), .no, .va (.list (iL H)), s6, .no, s8, .no] =
      .nx [.va (rgD p lol), .va x, .va y, .va (.list (iL (pRun p lol T H fs))), .no, .va (.list (iL H')), t6, .no, t8, .no]
  | [], T, H, s6, s8, _, _, _ => ⟨H, s6, s8, rfl⟩
  | f :: fs, T, H, s6, s8, hr, lT, lH => by
    have l1 : (pTot p f T H).length = lol.length := by unfold pTot; rw [List.length_zipWith]; omega
    have l2 : (pHere p lol H).length = lol.length := by unfold pHere; rw [List.length_zipWith]; simp; omega
    obtain ⟨H', t6, t8, e⟩ := prod_loop hp hn hm hl x y fs (pTot p f T H) (pHere p lol H) (.va (.int f)) (.va (.int (H.getD (H.length - 1) 0))) (fun c hc => hr c (by simp [hc])) l1 l2
    refine ⟨H', t6, t8, ?_⟩
    have hf := hr f (by simp)
    have z1 := zip1_loop (.va (rgD p lol)) (.va x) (.va y) (.va (.list (iL T))) (.va (.list (iL H))) s8 .no f rfl hp hf T H
    have z2 := zip2_loop (.va (rgD p lol)) (.va x) (.va y) (.va (.list (iL (pTot p f T H)))) (.va (.list (iL H))) (.va (.int f)) .no (H.getD (H.length - 1) 0) rfl hp (0 :: H.dropLast) lol hl
    have zz1 : szL (zipD (iL T) (iL H)).length = true := szL_ok (by rw [zip_iL, List.length_zipWith]; omega)
    have zz2 : szL (zipD (iL (0 :: H.dropLast)) (iL lol)).length = true := szL_ok (by rw [zip_iL, List.length_zipWith]; omega)
    have zz3 : szL (1 + (iL H.dropLast).length) = true := szL_ok (by rw [iL_len]; simp; omega)
    have zz4 : szL 1 = true := rfl
    have st1 : sSet 3 (eN (nLc (lZip (aCons (eVar 3) (aCons (eVar 5) (aNil)))) (gT [4, 7]) (bYes) (eOp2 gMod (eOp2 gAdd (eVar 4) (eOp2 gMul (eVar 6) (eVar 7))) (eOp2 gIx (eVar 0) (eC (.int 0)))) [4, 7])) [.va (rgD p lol), .va x, .va y, .va (.list (iL T)), .no, .va (.list (iL H)), .va (.int f), .no, s8, .no] =
        .nx [.va (rgD p lol), .va x, .va y, .va (.list (iL (pTot p f T H))), .no, .va (.list (iL H)), .va (.int f), .no, s8, .no] := by
      simp only [sSet, eN, nLc, lZip, aCons, aNil, eVar, R.bnd, R.o, fzAll, fz, seqOf, zz1, plainAt, plainS, wipeE, backE, z1, List.getElem?_cons_zero, List.getElem?_cons_succ, if_true, Bool.true_and, List.all_cons, List.all_nil, Bool.and_true, List.set_cons_succ, List.set_cons_zero, Option.getD_some]
    have st2 : sSet 8 (eOp2 gIx (eVar 5) (eOp1 gNeg (eC (.int 1)))) [.va (rgD p lol), .va x, .va y, .va (.list (iL (pTot p f T H))), .no, .va (.list (iL H)), .va (.int f), .no, s8, .no] =
        .nx [.va (rgD p lol), .va x, .va y, .va (.list (iL (pTot p f T H))), .no, .va (.list (iL H)), .va (.int f), .no, .va (.int (H.getD (H.length - 1) 0)), .no] := by
      have := gIx_last (H := H) (by omega)
      simp only [sSet, eOp2, eOp1, eVar, eC, R.bnd, R.o, rd, lift1, lift2, gNeg, fz, this, List.getElem?_cons_zero, List.getElem?_cons_succ, List.set_cons_succ, List.set_cons_zero]
    have st3 : sSet 5 (eN (nLc (lZip (aCons (eOp2 gAdd (eN (nLst (aCons (eC (.int 0)) (aNil)))) (eCut (eVar 5) (oNone) (oSome (eOp1 gNeg (eC (.int 1)))))) (aCons (eOp2 gIx (eVar 0) (eC (.int 1))) (aNil)))) (gT [4, 9]) (bYes) (eOp2 gMod (eOp2 gSub (eVar 4) (eOp2 gMul (eVar 8) (eVar 9))) (eOp2 gIx (eVar 0) (eC (.int 0)))) [4, 9])) [.va (rgD p lol), .va x, .va y, .va (.list (iL (pTot p f T H))), .no, .va (.list (iL H)), .va (.int f), .no, .va (.int (H.getD (H.length - 1) 0)), .no] =
        .nx [.va (rgD p lol), .va x, .va y, .va (.list (iL (pTot p f T H))), .no, .va (.list (iL (pHere p lol H))), .va (.int f), .no, .va (.int (H.getD (H.length - 1) 0)), .no] := by
      have c1 := cut_last (H := H) (by omega)
      have g1 : gAdd (.list [.int 0]) (.list (iL H.dropLast)) = some (.list (iL (0 :: H.dropLast))) := by
        unfold gAdd
        simp [zz3, iL]
        simpa [iL] using zz3
      simp only [sSet, eN, nLc, nLst, lZip, aCons, aNil, eVar, eC, eOp2, eOp1, eCut, oNone, oSome, gCut, gNeg, lift1, lift2, c1, R.bnd, R.o, rd, fzAll, fz, seqOf, zz4, g1, zz2, ix1, plainAt, plainS, wipeE, backE, z2, pHere, List.length_cons, List.length_nil, List.getElem?_cons_zero, List.getElem?_cons_succ, if_true, Bool.true_and, List.all_cons, List.all_nil, Bool.and_true, List.set_cons_succ, List.set_cons_zero, Option.getD_some]
    show (match sSeq _ (sSeq _ _) [.va (rgD p lol), .va x, .va y, .va (.list (iL T)), .no, .va (.list (iL H)), .va (.int f), .no, s8, .no] with
      | .nx e => forL _ _ (iL fs) e
      | .ct e => forL _ _ (iL fs) e
      | .bk e => .nx e
      | o => o) = _
    rw [sSeq_nx st1, sSeq_nx st2, st3]
    exact e
theorem s_product (h : Rg p lol) (x y : Int) : m__law_product_here [rgD p lol, .int x, .int y] = .ok (.int (tmE p lol x y)) := by
  have hp := h.pos
  have hn := h.nm
  have h1 := h.n1
  have hm := h.pm
  have hrl : ∀ o ∈ lol, inR o = true := fun o ho => inR_31 (h.lo o ho).1 (by have := (h.lo o ho).2; omega)
  have hra : ∀ o ∈ dig p lol.length y, inR o = true := fun o ho => inR_31 (dig_bnd hp _ _ _ ho).1 (by have := (dig_bnd hp _ _ _ ho).2; omega)
  obtain ⟨H', t6, t8, e⟩ := prod_loop (p := p) (lol := lol) hp (by omega) hn hrl (.int x) (.int y) (dig p lol.length y) (lol.map fun _ => 0) (dig p lol.length x) .no .no hra (by simp) (dig_len _ _ _)
  have e1 := s_digits (lol := lol) hp hm hn x
  have e2 := s_digits (lol := lol) hp hm hn y
  have e3 := s_element (lol := lol) hp hm (pRun p lol (lol.map fun _ => 0) (dig p lol.length x) (dig p lol.length y))
  rw [pRun_ok (by omega)] at e3
  rw [← coefs_eq] at e1 e2
  rw [← code_eq] at e3
  have zl : ∀ (a : List Int) (s0 s1 s2 s3 s5 s6 s7 s8 s9 : Sl), lcL (gN 4) bYes (eC (.int 0)) [4] (iL a) [s0, s1, s2, s3, .no, s5, s6, s7, s8, s9] = .ok (iL (a.map fun _ => 0)) [s0, s1, s2, s3, .no, s5, s6, s7, s8, s9] := by
    intro a s0 s1 s2 s3 s5 s6 s7 s8 s9
    induction a with
    | nil => simp [iL, lcL]
    | cons c a ih =>
      simp [iL] at ih
      simp [iL, lcL, gN, noX, bYes, eC, R.bnd, fz, wipeE, ih]
  have hz : szL (iL lol).length = true := szL_ok (by rw [iL_len]; omega)
  show (g__law_product_here [.va (rgD p lol), .va (.int x), .va (.int y), .no, .no, .no, .no, .no, .no, .no]).f = _
  unfold g__law_product_here
  refine seq_f [.va (rgD p lol), .va (.int x), .va (.int y), .va (.list (iL (lol.map fun _ => 0))), .no, .no, .no, .no, .no, .no] ?_ ?_
  · have z := zl lol (.va (rgD p lol)) (.va (.int x)) (.va (.int y)) .no .no .no .no .no .no
    simp only [sSet, eN, nLc, lSeq, eOp2, eVar, eC, rd, lift2, ix1, itemsOf, R.bnd, R.o, fz, hz, plainAt, plainS, wipeE, backE, z, List.getElem?_cons_zero, List.getElem?_cons_succ, if_true, Bool.true_and, List.all_cons, List.all_nil, Bool.and_true, List.set_cons_succ, List.set_cons_zero, Option.getD_some]
  refine seq_f [.va (rgD p lol), .va (.int x), .va (.int y), .va (.list (iL (lol.map fun _ => 0))), .no, .va (.list (iL (dig p lol.length x))), .no, .no, .no, .no] ?_ ?_
  · simp [sSet, eCall, aCons, aNil, eVar, R.bnd, R.o, fzAll, fz, Ar, e1]
  refine seq_f [.va (rgD p lol), .va (.int x), .va (.int y), .va (.list (iL (pRun p lol (lol.map fun _ => 0) (dig p lol.length x) (dig p lol.length y)))), .no, .va (.list (iL H')), t6, .no, t8, .no] ?_ ?_
  · rw [← e]
    simp [sFor, lSeq, itemsOf, eCall, aCons, aNil, eVar, R.bnd, R.o, fzAll, fz, Ar, e2]
  · simp [sRet, eCall, aCons, aNil, eVar, R.bnd, R.o, fzAll, fz, Ar, e3, O.f]
end
end Pf
namespace Pf
open PySem PySem.Spec PyProof.Rows L2
theorem whL_go {c : M Bool} {b : En → O} {n : Nat} {env e e' : En} (h1 : c env = .ok true e) (h2 : b e = .nx e') : whL c b (n + 1) env = whL c b n e' := by
  have e1 : whL c b (n + 1) env = (c env).o fun k e => if k = true then (match b e with
    | .nx e => whL c b n e
    | .ct e => whL c b n e
    | .bk e => .nx e
    | o => o) else .nx e := rfl
  rw [e1, h1]
  simp only [R.o, if_true, h2]
theorem whL_stop {c : M Bool} {b : En → O} {n : Nat} {env e : En} (h1 : c env = .ok false e) : whL c b (n + 1) env = .nx e := by
  show (c env).o _ = _
  rw [h1]
  rfl
section
variable {p : Int} {lol : List Int}
/-! ### units, powers -/
theorem tmE_lt (hp : 0 < p) (x y : Int) : 0 ≤ tmE p lol x y ∧ tmE p lol x y < p ^ lol.length := by
  have := cod_lt hp (tmL lol (dig p lol.length x) (dig p lol.length y))
  rw [tmL_len] at this
  exact this
theorem plE_lt (hp : 0 < p) (n : Nat) (x y : Int) : 0 ≤ plE p n x y ∧ plE p n x y < p ^ n := by
  have := cod_lt hp (List.zipWith (· + ·) (dig p n x) (dig p n y))
  rw [List.length_zipWith, dig_len, dig_len, Nat.min_self] at this
  exact this
theorem miE_lt (hp : 0 < p) (n : Nat) (x : Int) : 0 ≤ miE p n x ∧ miE p n x < p ^ n := by
  have := cod_lt hp ((dig p n x).map (0 - ·))
  rw [List.length_map, dig_len] at this
  exact this
theorem dig_zero (p : Int) : ∀ n, dig p n 0 = List.replicate n 0
  | 0 => rfl
  | n + 1 => by unfold dig; rw [List.replicate_succ]; simp [dig_zero p n]
theorem dig_one (h2 : 2 ≤ p) (n : Nat) : dig p (n + 1) 1 = 1 :: List.replicate n 0 := by
  unfold dig
  rw [Int.emod_eq_of_lt (by omega) (by omega), Int.ediv_eq_zero_of_lt (by omega) (by omega), dig_zero]
theorem tmE_one (h2 : 2 ≤ p) (hn : 0 < lol.length) {x : Int} (h0 : 0 ≤ x) (h1 : x < p ^ lol.length) : tmE p lol x 1 = x := by
  have hp : 0 < p := by omega
  unfold tmE tmL
  obtain ⟨m, hm⟩ : ∃ m, lol.length = m + 1 := ⟨lol.length - 1, by omega⟩
  have e : vM lol.length (vL lol) (vL (dig p lol.length x)) (dig p lol.length 1) = vL (dig p lol.length x) := by
    have : dig p lol.length 1 = 1 :: List.replicate m 0 := by rw [hm]; exact dig_one h2 m
    rw [this]
    show vAdd (vSc 1 _) (vX _ _ (vM _ _ _ (List.replicate m 0))) = _
    rw [vM_rep, vX_0, vAdd_0, one_sc]
  rw [e]
  have := lst_vL (dig p lol.length x)
  rw [dig_len] at this
  rw [this]
  exact cod_dig hp _ x h0 h1
theorem cod_zeros (p : Int) : ∀ l : List Int, lQ p l (l.map fun _ => 0) → cod p l = 0
  | [], _ => rfl
  | c :: l, h => by
    unfold cod
    rw [cod_zeros p l h.2, h.1]
    simp
theorem plE_neg (hp : 0 < p) (n : Nat) (x : Int) : plE p n x (miE p n x) = 0 := by
  unfold plE
  apply cod_zeros
  have h1 : lQ p (dig p n (miE p n x)) ((dig p n x).map (0 - ·)) := by
    unfold miE
    have := dig_cod hp ((dig p n x).map (0 - ·))
    rw [List.length_map, dig_len] at this
    rw [this]
    exact lQ_mod _
  have h2 := lQ_zip (lQ_refl (p := p) (dig p n x)) h1
  have e : List.zipWith (· + ·) (dig p n x) ((dig p n x).map (0 - ·)) = (dig p n x).map fun _ => 0 := by
    generalize dig p n x = l
    induction l with
    | nil => rfl
    | cons a l ih =>
      simp only [List.map_cons, List.zipWith_cons_cons, ih]
      congr 1
      omega
  rw [e] at h2
  have e2 : (List.zipWith (· + ·) (dig p n x) (dig p n (miE p n x))).map (fun _ => (0 : Int)) = (dig p n x).map fun _ => 0 := by
    have l1 := dig_len p n x
    have l2 := dig_len p n (miE p n x)
    rw [List.map_const', List.map_const', List.length_zipWith, l1, l2, Nat.min_self]
  rw [e2]
  exact h2
def pwE (p : Int) (lol : List Int) (x : Int) : Nat → Int
  | 0 => 1
  | k + 1 => tmE p lol (pwE p lol x k) x
theorem one_lt (h : Rg p lol) : (1 : Int) < p ^ lol.length := by
  have h2 := h.p2
  have h1 := h.n1
  obtain ⟨m, hm⟩ : ∃ m, lol.length = m + 1 := ⟨lol.length - 1, by omega⟩
  rw [hm, Int.pow_succ]
  have : (1 : Int) ≤ p ^ m := Int.pow_pos (by omega)
  have := Int.mul_le_mul_of_nonneg_right this (show 0 ≤ p by omega)
  omega
theorem pwE_lt (h : Rg p lol) (x : Int) : ∀ k, 0 ≤ pwE p lol x k ∧ pwE p lol x k < p ^ lol.length
  | 0 => ⟨by unfold pwE; omega, one_lt h⟩
  | k + 1 => tmE_lt h.pos _ _
theorem pwE_add (h : Rg p lol) (x : Int) (j : Nat) : ∀ k, pwE p lol x (j + k) = tmE p lol (pwE p lol x j) (pwE p lol x k)
  | 0 => by
    have := pwE_lt h x j
    exact (tmE_one h.p2 h.n1 this.1 this.2).symm
  | k + 1 => by
    show tmE p lol (pwE p lol x (j + k)) x = tmE p lol (pwE p lol x j) (tmE p lol (pwE p lol x k) x)
    rw [pwE_add h x j k, tmE_assoc h.pos]
theorem pwE_sq (h : Rg p lol) (x : Int) : ∀ k, pwE p lol (tmE p lol x x) k = pwE p lol x (2 * k)
  | 0 => rfl
  | k + 1 => by
    show tmE p lol (pwE p lol (tmE p lol x x) k) (tmE p lol x x) = tmE p lol (tmE p lol (pwE p lol x (2 * k)) x) x
    rw [pwE_sq h x k, tmE_assoc h.pos]
theorem pwE_comm (h : Rg p lol) (x : Int) : ∀ k, tmE p lol x (pwE p lol x k) = pwE p lol x (k + 1) := fun k => tmE_comm _ _
/-- by squares -/
theorem rai_loop (h : Rg p lol) : ∀ (n : Nat) (x r : Int) (e : Nat), e < 2 ^ n → 0 ≤ r → r < p ^ lol.length → ∃ x',
    whL (bT (eOp2 gGt (eVar 2) (eC (.int 0)))) (sSeq (sIf (bT (eOp2 gEq (eOp2 gMod (eVar 2) (eC (.int 2))) (eC (.int 1)))) (sSet 3 (eCall (Ar 3 m_times) (aCons (eVar 0) (aCons (eVar 3) (aCons (eVar 1) (aNil)))))) (sNil))
  (sPar [1, 2] (aCons (eCall (Ar 3 m_times) (aCons (eVar 0) (aCons (eVar 1) (aCons (eVar 1) (aNil))))) (aCons (eOp2 gFdiv (eVar 2) (eC (.int 2))) (aNil))))) (n + 1) [.va (rgD p lol), .va (.int x), .va (.int e), .va (.int r)] =
    .nx [.va (rgD p lol), .va (.int x'), .va (.int 0), .va (.int (tmE p lol r (pwE p lol x e)))]
  | n, x, r, 0, _, h0, h1 => by
    refine ⟨x, ?_⟩
    show _ = O.nx [.va (rgD p lol), .va (.int x), .va (.int 0), .va (.int (tmE p lol r 1))]
    rw [tmE_one h.p2 h.n1 h0 h1]
    simp [whL, bT, eOp2, eVar, eC, R.bnd, R.o, rd, lift2, gGt, gCmp]
  | 0, x, r, e + 1, hb, _, _ => by simp at hb
  | n + 1, x, r, e + 1, hb, h0, h1 => by
    have hb2 : (e + 1) / 2 < 2 ^ n := by
      rw [Nat.pow_succ] at hb
      omega
    have q1 : (0 : Int) < ((e + 1 : Nat) : Int) := by omega
    have q2 : gMod (.int ((e + 1 : Nat) : Int)) (.int 2) = some (.int (((e + 1) % 2 : Nat) : Int)) := by
      rw [gMod_ok (by omega)]
      rfl
    have q3 : gFdiv (.int ((e + 1 : Nat) : Int)) (.int 2) = some (.int (((e + 1) / 2 : Nat) : Int)) := by
      rw [gFdiv_ok (by omega) (by omega)]
      rfl
    have ht := s_times h
    rcases Nat.mod_two_eq_zero_or_one (e + 1) with z | z
    · obtain ⟨x', eq⟩ := rai_loop h n (tmE p lol x x) r ((e + 1) / 2) hb2 h0 h1
      refine ⟨x', ?_⟩
      rw [pwE_sq h, show 2 * ((e + 1) / 2) = e + 1 by omega] at eq
      rw [z] at q2
      refine (whL_go (e := [.va (rgD p lol), .va (.int x), .va (.int (e + 1 : Nat)), .va (.int r)]) ?_ ?_).trans eq
      · generalize ((e + 1 : Nat) : Int) = E at q1
        simp [bT, eOp2, eVar, eC, R.bnd, rd, lift2, gGt, gCmp, q1]
      · generalize ((e + 1 : Nat) : Int) = E at q1 q2 q3
        generalize (((e + 1) / 2 : Nat) : Int) = E2 at q3
        simp [bT, eOp2, eVar, eC, R.bnd, R.o, rd, lift2, q2, q3, sSeq, sIf, gEq_int, sNil, sPar, aCons, aNil, eCall, fzAll, fz, Ar, ht, setAll]
    · have hr := tmE_lt (lol := lol) h.pos r x
      obtain ⟨x', eq⟩ := rai_loop h n (tmE p lol x x) (tmE p lol r x) ((e + 1) / 2) hb2 hr.1 hr.2
      refine ⟨x', ?_⟩
      have : pwE p lol x (e + 1) = tmE p lol x (pwE p lol x (2 * ((e + 1) / 2))) := by
        rw [pwE_comm h, show 2 * ((e + 1) / 2) + 1 = e + 1 by omega]
      rw [this, ← tmE_assoc h.pos]
      rw [pwE_sq h] at eq
      rw [z] at q2
      refine (whL_go (e := [.va (rgD p lol), .va (.int x), .va (.int (e + 1 : Nat)), .va (.int r)]) ?_ ?_).trans eq
      · generalize ((e + 1 : Nat) : Int) = E at q1
        simp [bT, eOp2, eVar, eC, R.bnd, rd, lift2, gGt, gCmp, q1]
      · generalize ((e + 1 : Nat) : Int) = E at q1 q2 q3
        generalize (((e + 1) / 2 : Nat) : Int) = E2 at q3
        simp [bT, eOp2, eVar, eC, R.bnd, R.o, rd, lift2, q2, q3, sSeq, sIf, gEq_int, sSet, sPar, aCons, aNil, eCall, fzAll, fz, Ar, ht, setAll]
theorem s_raised (h : Rg p lol) (x : Int) (e : Nat) (he : e < 2 ^ 99) : m_raised [rgD p lol, .int x, .int e] = .ok (.int (pwE p lol x e)) := by
  have h1 := one_lt h
  obtain ⟨x', eq⟩ := rai_loop h 99 x 1 e he (by omega) h1
  have hw := pwE_lt h x e
  rw [tmE_comm, tmE_one h.p2 h.n1 hw.1 hw.2] at eq
  show (g_raised [.va (rgD p lol), .va (.int x), .va (.int e), .no]).f = _
  unfold g_raised
  exact seq_f [.va (rgD p lol), .va (.int x), .va (.int e), .va (.int 1)] rfl (seq_f _ eq rfl)
theorem s_power (h : Rv p lol) {x : Int} (h0 : 0 ≤ x) (h1 : x < p ^ lol.length) (e : Nat) (he : e ≤ 9999) : m_power [rgD p lol, .int x, .int e] = .ok (.int (pwE p lol x e)) := by
  have hr := s_raised h.toRg x e (Nat.lt_of_le_of_lt he (by decide))
  have e1 := s_isint e 0 9999
  have e2 : (decide (0 ≤ (e : Int)) && decide ((e : Int) ≤ 9999)) = true := by simp; omega
  rw [e2] at e1
  show (g_power [.va (rgD p lol), .va (.int x), .va (.int e)]).f = _
  unfold g_power
  simp [sSeq, sDrop, sRet, sIf, sNil, bNot, bT, eC, eCall, aCons, aNil, eVar, R.bnd, R.o, fzAll, fz, Ar, rd, s_check_ring h, s_check_element h.toRg h0 h1, e1, hr, O.f]
theorem s_size_here (h : Rg p lol) : m__law_size_here [rgD p lol] = .ok (.int (p ^ lol.length)) := by
  have hi : inR p = true := inR_31 (by have := h.p2; omega) h.pm
  have lp : ∀ (l : List D) (r : Int) (s : Sl), ∃ s', forL (gN 2) (sSet 1 (eOp2 gMul (eVar 1) (eOp2 gIx (eVar 0) (eC (.int 0))))) l [.va (rgD p lol), .va (.int r), s] = .nx [.va (rgD p lol), .va (.int (r * p ^ l.length)), s'] := by
    intro l
    induction l with
    | nil => intro r s; exact ⟨s, by simp [forL]⟩
    | cons d l ih =>
      intro r s
      obtain ⟨s', e⟩ := ih (r * p) (.va d)
      refine ⟨s', ?_⟩
      have e2 : r * p ^ (d :: l).length = r * p * p ^ l.length := by rw [List.length_cons, Int.pow_succ, Int.mul_comm (p ^ l.length) p, Int.mul_assoc]
      rw [e2, ← e]
      simp [forL, gN, sSet, eOp2, eVar, eC, R.bnd, R.o, rd, lift2, ix0, gMul_ok hi, fz]
  obtain ⟨s', e⟩ := lp (iL lol) 1 .no
  rw [Int.one_mul, iL_len] at e
  show (g__law_size_here [.va (rgD p lol), .no, .no]).f = _
  unfold g__law_size_here
  refine seq_f [.va (rgD p lol), .va (.int 1), .no] rfl (seq_f [.va (rgD p lol), .va (.int (p ^ lol.length)), s'] ?_ rfl)
  rw [← e]
  rfl
end
/-! ### draws -/
theorem mod_pos {x m : Int} (h : 0 < m) : 0 ≤ x % m ∧ x % m < m := ⟨Int.emod_nonneg x (Int.ne_of_gt h), Int.emod_lt_of_pos x h⟩
theorem s_cell (ns : List Int) (hn : ns.length ≤ 63) (k : Nat) (hk : k ≤ 20000) : ∃ c, m__law_cell_at ns [.int k] = .ok (.int c) := by
  show ∃ c, (g__law_cell_at [.sc ns, .va (.int k), .no, .no]).f = .ok (.int c)
  unfold g__law_cell_at
  by_cases h1 : (k : Int) < (ns.length : Int)
  · have hk' : k < ns.length := by omega
    refine ⟨ns[k], ?_⟩
    have e : atI ns (k : Int) = some ns[k] := by
      unfold atI
      rw [ixN_ok hk']
      show ns[k]? = _
      simp [hk']
    simp [sSeq, sIf, bT, eOp2, eVar, eSLen, scAt, R.bnd, R.o, rd, lift2, gLt, gCmp, h1, sRet, eSAt, e, fz, O.f]
  · cases ns with
    | nil =>
      refine ⟨0, ?_⟩
      have q : ¬ ((k : Int) < 0) := by omega
      simp [sSeq, sIf, bT, eOp2, eVar, eC, eSLen, eSNil, scAt, R.bnd, R.o, rd, lift2, gLt, gCmp, q, sRet, fz, O.f, sNil]
    | cons a l =>
      have hl : (0 : Int) < ((a :: l).length : Int) := by rw [List.length_cons]; omega
      have hl2 : ((a :: l).length : Int) ≤ 63 := by omega
      generalize hns : a :: l = ns at *
      have hne : ns.isEmpty = false := by rw [← hns]; rfl
      have m1 := mod_pos (x := (k : Int)) hl
      obtain ⟨j, hj⟩ : ∃ j : Nat, (k : Int) % (ns.length : Int) = j := ⟨((k : Int) % (ns.length : Int)).toNat, by omega⟩
      have hj' : j < ns.length := by omega
      have e : atI ns (j : Int) = some ns[j] := by
        unfold atI
        rw [ixN_ok hj']
        show ns[j]? = _
        simp [hj']
      have eM : gMod (.int k) (.int ns.length) = some (.int j) := by rw [gMod_ok hl, hj]
      have eF : gFdiv (.int k) (.int ns.length) = some (.int ((k : Int) / (ns.length : Int))) := by
        unfold gFdiv
        simp only
        rw [if_pos (decide_eq_true ⟨hl, by omega⟩)]
      have lp : ∀ (ds : List D) (v : Int) (s : Sl), ∃ v' s', forL (gN 3) (sSet 2 (eOp2 gFdiv (eVar 2) (eC (.int 1000003)))) ds [.sc ns, .va (.int k), .va (.int v), s] = .nx [.sc ns, .va (.int k), .va (.int v'), s'] := by
        intro ds
        induction ds with
        | nil => intro v s; exact ⟨v, s, rfl⟩
        | cons d ds ih =>
          intro v s
          obtain ⟨v', s', e⟩ := ih (v / 1000003) (.va d)
          refine ⟨v', s', ?_⟩
          rw [← e]
          simp [forL, gN, sSet, eOp2, eVar, eC, R.bnd, R.o, rd, lift2, gFdiv, fz]
      obtain ⟨d, hd0, hd60, ed⟩ : ∃ d : Int, 0 ≤ d ∧ d ≤ 60 ∧ gMin [.int ((k : Int) / (ns.length : Int)), .int 60] = some (.int d) := by
        refine ⟨if 60 < (k : Int) / (ns.length : Int) then 60 else (k : Int) / (ns.length : Int), ?_, ?_, rfl⟩
        · have : 0 ≤ (k : Int) / (ns.length : Int) := Int.ediv_nonneg (by omega) (by omega)
          split <;> omega
        · split <;> omega
      obtain ⟨v', s', el⟩ := lp (rngD 0 d.toNat) ns[j] .no
      refine ⟨ns[j] * 31 + k + v' * 101, ?_⟩
      have q1 : small62 d = true := by unfold small62; rw [Nat.blt_eq]; omega
      have q2 : szL d.toNat = true := szL_ok (by omega)
      refine seq_f [.sc ns, .va (.int k), .no, .no] ?_ (seq_f [.sc ns, .va (.int k), .no, .no] ?_ (seq_f [.sc ns, .va (.int k), .va (.int ns[j]), .no] ?_ (seq_f [.sc ns, .va (.int k), .va (.int v'), s'] ?_ ?_)))
      · simp [sIf, bT, eOp2, eVar, eSLen, scAt, R.bnd, R.o, rd, lift2, gLt, gCmp, h1, sNil]
      · simp [sIf, bT, eSNil, scAt, R.bnd, R.o, rd, hne, sNil]
      · simp [sSet, eOp2, eVar, eSLen, eSAt, scAt, R.bnd, R.o, rd, lift2, eM, e, fz]
      · rw [← el]
        simp [sFor, lRng, aCons, aNil, eB, rdAll, rdI, eOp2, eVar, eC, eSLen, scAt, R.bnd, R.o, rd, lift2, eF, ed, rng1, q1, q2]
      · have i1 : inR (31 : Int) = true := rfl
        have i2 : inR (101 : Int) = true := rfl
        simp [sRet, eOp2, eVar, eC, eSLen, eSAt, scAt, R.bnd, R.o, rd, lift2, eM, e, gMul_ok i1, gMul_ok i2, gAdd_ok, fz, O.f]
theorem s_mixed (ns : List Int) (hn : ns.length ≤ 63) (k : Nat) (hk : k ≤ 20000) (m : Int) (hm : 0 < m) : ∃ d, 0 ≤ d ∧ d < m ∧ m__law_mixed ns [.int k, .int m] = .ok (.int d) := by
  obtain ⟨c, e⟩ := s_cell ns hn k hk
  have i1 : inR (1103515245 : Int) = true := rfl
  have i2 : inR (7919 : Int) = true := rfl
  obtain ⟨z, hz⟩ : ∃ z, z = (c * 1103515245 + 7919 * k + 12345) % 2147483647 := ⟨_, rfl⟩
  have hz2 := mod_pos (x := c * 1103515245 + 7919 * k + 12345) (m := 2147483647) (by omega)
  rw [← hz] at hz2
  refine ⟨z ^ 5 % 2147483647 % 999983 % m, (mod_pos hm).1, (mod_pos hm).2, ?_⟩
  show (g__law_mixed [.sc ns, .va (.int k), .va (.int m), .no]).f = _
  unfold g__law_mixed
  refine seq_f [.sc ns, .va (.int k), .va (.int m), .va (.int z)] ?_ ?_
  · have g1 : gMod (.int (c * 1103515245 + 7919 * k + 12345)) (.int 2147483647) = some (.int z) := by rw [gMod_ok (by omega), hz]
    have g2 : gMul (.int 7919) (.int k) = some (.int (7919 * k)) := by unfold gMul; simp [i2]
    simp [sSet, eOp2, eCallS, ArS, aCons, aNil, eVar, eC, R.bnd, R.o, rd, lift2, fzAll, fz, e, gMul_ok i1, g2, gAdd_ok, g1]
  · have g1 : gPow (.int z) (.int 5) = some (.int (z ^ 5)) := by
      unfold gPow
      simp only
      rw [if_pos (decide_eq_true ⟨by omega, by omega, by omega⟩)]
      rfl
    simp [sRet, eOp2, eVar, eC, R.bnd, R.o, rd, lift2, g1, gMod_ok (show (0 : Int) < 2147483647 by omega), gMod_ok (show (0 : Int) < 999983 by omega), gMod_ok hm, fz, O.f]
theorem s_draw (ns : List Int) (hn : ns.length ≤ 63) (ts : List D) (ht : ts.length ≤ 9999) (m : Int) (hm : 0 < m) : ∃ d, 0 ≤ d ∧ d < m ∧ m__law_draw ns ts [.int m] = .ok (.int d) (ts ++ [.int 0]) := by
  obtain ⟨d, h0, h1, e⟩ := s_mixed ns hn (ts.length + 1) (by omega) m hm
  refine ⟨d, h0, h1, ?_⟩
  show (g__law_draw [.sc ns, .ow true ts, .va (.int m)]).t = _
  unfold g__law_draw
  have hz : szL ts.length = true := szL_ok (by omega)
  have e' : m__law_mixed ns [.int ((ts.length : Int) + 1), .int m] = .ok (.int d) := e
  simp [sSeq, sDrop, eApp, eC, R.bnd, R.o, fz, hz, sRet, eCallS, ArS, aCons, aNil, eVar, eB, rdAll, rd, gLen, fzAll, e', O.t, townOf]
end Pf
namespace Pf
open PySem PySem.Spec PyProof.Rows L2
theorem seq_t {g1 g2 : En → O} {env : En} {r : RfD} (e : En) (h : g1 env = .nx e) (h2 : (g2 e).t = r) : (sSeq g1 g2 env).t = r := by unfold sSeq; rw [h]; exact h2
def z0 (n : Nat) : List D := List.replicate n (.int 0)
theorem z0_app (m n : Nat) : z0 m ++ z0 n = z0 (m + n) := by unfold z0; rw [List.replicate_append_replicate]
theorem z0_one (n : Nat) : z0 n ++ [.int 0] = z0 (n + 1) := z0_app n 1
theorem z0_len (n : Nat) : (z0 n).length = n := by unfold z0; rw [List.length_replicate]
theorem s_drawZ (ns : List Int) (hn : ns.length ≤ 63) (t : Nat) (ht : t ≤ 9999) (m : Int) (hm : 0 < m) : ∃ d, 0 ≤ d ∧ d < m ∧ m__law_draw ns (z0 t) [.int m] = .ok (.int d) (z0 (t + 1)) := by
  obtain ⟨d, h0, h1, e⟩ := s_draw ns hn (z0 t) (by rw [z0_len]; exact ht) m hm
  rw [z0_one] at e
  exact ⟨d, h0, h1, e⟩
theorem gIx_any {l : List D} {i : Nat} {d : D} (h : l[i]? = some d) : gIx (.list l) (.int i) = some d := by
  have hk : i < l.length := (List.getElem?_eq_some_iff.mp h).1
  show atI l (i : Int) = _
  unfold atI
  rw [ixN_ok hk]
  exact h
theorem s_pick (ns : List Int) (hn : ns.length ≤ 63) (t : Nat) (ht : t ≤ 9999) (l : List D) (hl : 0 < l.length) : ∃ (i : Nat) (d : D), l[i]? = some d ∧ m__law_pick ns (z0 t) [.list l] = .ok d (z0 (t + 1)) := by
  obtain ⟨k, h0, h1, e⟩ := s_drawZ ns hn t ht l.length (by omega)
  obtain ⟨i, rfl⟩ : ∃ i : Nat, k = i := ⟨k.toNat, by omega⟩
  have hi : i < l.length := by omega
  refine ⟨i, l[i], List.getElem?_eq_getElem hi, ?_⟩
  have e2 := gIx_any (List.getElem?_eq_getElem hi)
  show (g__law_pick [.sc ns, .ow true (z0 t), .va (.list l)]).t = _
  unfold g__law_pick
  simp [sRet, eOp2, eVar, eDraw, ArD, aCons, aNil, eB, rdAll, rd, gLen, fzAll, fz, R.bnd, R.o, e, e2, lift2, O.t, townOf]
theorem sr_loop (ns : List Int) (hn : ns.length ≤ 63) (s2 s4 : Sl) (p : Int) (hp : 0 < p) : ∀ (m : Nat) (lo : Int) (t : Nat), t + m ≤ 9999 → ∃ cs : List Int, cs.length = m ∧ (∀ c ∈ cs, 0 ≤ c ∧ c < p) ∧
    lcL (gN 5) bYes (eDraw (ArD 3 m__law_draw) (aCons (eVar 0) (aCons (eVar 1) (aCons (eVar 3) (aNil))))) [5] (rngD lo m) [.sc ns, .ow true (z0 t), s2, .va (.int p), s4, .no] = .ok (iL cs) [.sc ns, .ow true (z0 (t + m)), s2, .va (.int p), s4, .no]
  | 0, lo, t, _ => ⟨[], rfl, by simp, by simp [rngD, lcL, iL]⟩
  | m + 1, lo, t, h => by
    obtain ⟨c, c0, c1, e⟩ := s_drawZ ns hn t (by omega) p hp
    obtain ⟨cs, l1, l2, e2⟩ := sr_loop ns hn s2 s4 p hp m (lo + 1) (t + 1) (by omega)
    refine ⟨c :: cs, by simp [l1], fun x hx => ?_, ?_⟩
    · rcases List.mem_cons.mp hx with rfl | hx
      · exact ⟨c0, c1⟩
      · exact l2 x hx
    · rw [show t + (m + 1) = t + 1 + m by omega]
      simp [rngD, lcL, gN, noX, bYes, eDraw, ArD, aCons, aNil, eVar, R.bnd, fzAll, fz, e, wipeE, e2, iL]
def ringsL : List (Int × Nat) := [(2, 1), (2, 2), (2, 3), (2, 4), (2, 5), (3, 1), (3, 2), (3, 3), (5, 1), (5, 2), (7, 1), (11, 1)]
theorem rings_ok : ∀ r ∈ ringsL, 2 ≤ r.1 ∧ r.1 ≤ 31 ∧ 1 ≤ r.2 ∧ r.2 ≤ 5 ∧ r.1 ∈ ([2, 3, 5, 7, 11, 13, 17, 19, 23, 29, 31] : List Int) ∧ r.1 ^ r.2 ≤ 32 := by decide +kernel
theorem s_some_ring (ns : List Int) (hn : ns.length ≤ 63) (t : Nat) (ht : t ≤ 9000) : ∃ p lol t', Rv p lol ∧ t' ≤ t + 6 ∧ (p, lol.length) ∈ ringsL ∧ m__law_some_ring ns (z0 t) [] = .ok (rgD p lol) (z0 t') := by
  obtain ⟨i, d, hd, e⟩ := s_pick ns hn t (by omega) (ringsL.map fun r => .tuple [.int r.1, .int r.2]) (by decide)
  rw [List.getElem?_map] at hd
  cases q : ringsL[i]? with
  | none => rw [q] at hd; cases hd
  | some r =>
    rw [q] at hd
    cases hd
    obtain ⟨p, m⟩ := r
    have hr := rings_ok _ (List.mem_of_getElem? q)
    simp only at hr
    obtain ⟨h1, h2, h3, h4, h5, h6⟩ := hr
    obtain ⟨cs, l1, l2, e2⟩ := sr_loop ns hn (.va (.list (ringsL.map fun r => .tuple [.int r.1, .int r.2]))) (.va (.int m)) p (by omega) m 0 (t + 1) (by omega)
    refine ⟨p, cs, t + 1 + m, ⟨⟨h1, h2, by omega, by omega, l2⟩, h5, by rw [l1]; exact h6⟩, by omega, by rw [l1]; exact List.mem_of_getElem? q, ?_⟩
    show (g__law_some_ring [.sc ns, .ow true (z0 t), .no, .no, .no, .no]).t = _
    unfold g__law_some_ring
    refine seq_t [.sc ns, .ow true (z0 t), .va (.list (ringsL.map fun r => .tuple [.int r.1, .int r.2])), .no, .no, .no] rfl ?_
    refine seq_t [.sc ns, .ow true (z0 (t + 1)), .va (.list (ringsL.map fun r => .tuple [.int r.1, .int r.2])), .va (.int p), .va (.int m), .no] ?_ ?_
    · simp only [sAsg, eDraw, ArD, aCons, aNil, eVar, R.bnd, R.o, fzAll, fz, e, gT, setAll, List.getElem?_cons_zero, List.getElem?_cons_succ, List.length_cons, List.length_nil, if_true, List.set_cons_succ, List.set_cons_zero]
    · have q1 : small62 (m : Int) = true := by unfold small62; rw [Nat.blt_eq]; omega
      have q2 : szL m = true := szL_ok (by omega)
      have q4 : (rngD 0 m).length = m := by
        have : ∀ (k : Nat) (lo : Int), (rngD lo k).length = k := by
          intro k
          induction k with
          | zero => intro lo; rfl
          | succ k ih => intro lo; simp [rngD, ih]
        exact this m 0
      have q3 : (m : Int).toNat = m := by omega
      have q5 : szL 2 = true := rfl
      simp only [sRet, eTup, eB, eN, nLc, lRng, rng1, rdI, rdAll, gTuple, aCons, aNil, eVar, R.bnd, R.o, fzAll, fz, rd, q1, q2, q3, q4, q5, plainAt, plainS, wipeE, backE, e2, O.t, townOf, List.getElem?_cons_zero, List.getElem?_cons_succ, List.length_cons, List.length_nil, if_true, Bool.true_and, List.all_cons, List.all_nil, Bool.and_true, List.set_cons_succ, List.set_cons_zero, Option.getD_some, Bool.and_self]
      rfl
end Pf
namespace Pf
open PySem PySem.Spec PyProof.Rows L2
/-! ### is_integer of other things -/
theorem s_isint_bool (b : Bool) (lo hi : D) : m_is_integer [.bool b, lo, hi] = .ok (.bool false) := by
  show (g_is_integer [.va (.bool b), .va lo, .va hi]).f = _
  unfold g_is_integer
  have k1 : kInt (tyD (.bool b)) = true := show kInt "bool" = true by decide +kernel
  have k2 : kBool (tyD (.bool b)) = true := show kBool "bool" = true by decide +kernel
  simp [sRet, eAnd, eOp1, eNot, eVar, R.bnd, R.o, rd, lift1, gIsi, k1, k2, fz, O.f]
def noInt : D → Bool
  | .none => true
  | .str _ => true
  | .list _ => true
  | .tuple _ => true
  | _ => false
theorem s_isint_no (d lo hi : D) (h : noInt d = true) : m_is_integer [d, lo, hi] = .ok (.bool false) := by
  show (g_is_integer [.va d, .va lo, .va hi]).f = _
  unfold g_is_integer
  have k : gIsi kInt d = some (.bool false) := by
    cases d with
    | none => show some (PyData.bool (kInt "NoneType")) = _; rw [show kInt "NoneType" = false by decide +kernel]
    | str x => show some (PyData.bool (kInt "str")) = _; rw [show kInt "str" = false by decide +kernel]
    | list x => show some (PyData.bool (kInt "list")) = _; rw [show kInt "list" = false by decide +kernel]
    | tuple x => show some (PyData.bool (kInt "tuple")) = _; rw [show kInt "tuple" = false by decide +kernel]
    | _ => cases h
  simp [sRet, eAnd, eOp1, eVar, R.bnd, R.o, rd, lift1, k, fz, O.f]
theorem s_truth (a b : Bool) : m__law_same_truth [.bool a, .bool b] = .ok (.bool (a == b)) := by
  show (g__law_same_truth [.va (.bool a), .va (.bool b)]).f = _
  unfold g__law_same_truth
  have k2 : kBool (tyD (.bool a)) = true := show kBool "bool" = true by decide +kernel
  have e : gEq (.bool a) (.bool b) = some (.bool (a == b)) := rfl
  simp [sRet, eAnd, eOp1, eOp2, eVar, R.bnd, R.o, rd, lift1, lift2, gIsi, k2, e, fz, O.f]
section
variable {p : Int} {lol : List Int}
/-! ### fields, by what split says -/
theorem s_is_field (h : Rv p lol) {d : D} (e : m_split [rgD p lol] = .ok d) : m_is_field [rgD p lol] = .ok (.bool (isNon d)) := by
  show (g_is_field [.va (rgD p lol)]).f = _
  unfold g_is_field
  simp [sSeq, sDrop, sRet, eOp2, eC, eCall, aCons, aNil, eVar, R.bnd, R.o, rd, lift2, fzAll, fz, Ar, s_check_ring h, e, gIs, O.f]
theorem s_factors (h : Rv p lol) {d : D} (e : m_split [rgD p lol] = .ok d) : m_factors [rgD p lol] = .ok d := by
  show (g_factors [.va (rgD p lol)]).f = _
  unfold g_factors
  simp [sSeq, sDrop, sRet, eCall, aCons, aNil, eVar, R.bnd, R.o, fzAll, fz, Ar, s_check_ring h, e, O.f]
theorem s_paper_no (h : Rv p lol) (e : m_split [rgD p lol] = .ok .none) : m_paper [rgD p lol] = .exc "IsField" := by
  show (g_paper [.va (rgD p lol), .no, .no]).f = _
  unfold g_paper
  simp [sSeq, sDrop, sSet, sIf, bT, eOp2, eC, eCall, aCons, aNil, eVar, R.bnd, R.o, rd, lift2, fzAll, fz, Ar, s_check_ring h, e, gIs, isNon, sRaise, O.f]
theorem s_paper_two (h : Rv p lol) {a b : List Int} (e : m_split [rgD p lol] = .ok (.tuple [.tuple (iL a), .tuple (iL b)])) : m_paper [rgD p lol] = .ok (.tuple [.int (cod p a), .int (cod p b)]) := by
  show (g_paper [.va (rgD p lol), .no, .no]).f = _
  unfold g_paper
  have e1 := s_element (lol := lol) h.pos h.pm a
  have e2 := s_element (lol := lol) h.pos h.pm b
  have q1 : szL 2 = true := rfl
  refine seq_f [.va (rgD p lol), .no, .no] ?_ (seq_f [.va (rgD p lol), .va (.tuple [.tuple (iL a), .tuple (iL b)]), .no] ?_ (seq_f [.va (rgD p lol), .va (.tuple [.tuple (iL a), .tuple (iL b)]), .no] ?_ ?_))
  · simp [sDrop, eCall, aCons, aNil, eVar, R.bnd, R.o, fzAll, fz, Ar, s_check_ring h]
  · simp [sSet, eCall, aCons, aNil, eVar, R.bnd, R.o, fzAll, fz, Ar, e]
  · simp [sIf, bT, eOp2, eC, eVar, R.bnd, R.o, rd, lift2, gIs, isNon, sNil]
  · simp [sRet, eB, eN, nLc, lSeq, itemsOf, lcL, gN, noX, bYes, nList, seqOf, eCall, aCons, aNil, eVar, R.bnd, R.o, rd, rdAll, fzAll, fz, Ar, e1, e2, q1, plainAt, plainS, wipeE, backE, gTuple, O.f]
/-! ### papers -/
theorem isp_two (h : Rv p lol) (d1 d2 : D) (b1 b2 : Bool) (e1 : m_is_integer [d1, .int 1, .int (p ^ lol.length - 1)] = .ok (.bool b1)) (e2 : m_is_integer [d2, .int 1, .int (p ^ lol.length - 1)] = .ok (.bool b2)) (hb : (b1 && b2) = false) :
    m_is_paper [rgD p lol, .tuple [d1, d2]] = .ok (.bool false) := by
  show (g_is_paper [.va (rgD p lol), .va (.tuple [d1, d2]), .no]).f = _
  unfold g_is_paper
  have g1 : gIsi kTup (.tuple [d1, d2]) = some (.bool true) := by
    show some (PyData.bool (kTup "tuple")) = _
    rw [show kTup "tuple" = true by decide +kernel]
  have g2 : gLen [.tuple [d1, d2]] = some (.int 2) := rfl
  have q1 : szL 2 = true := rfl
  have sz := s_size_of h.toRg
  refine seq_f [.va (rgD p lol), .va (.tuple [d1, d2]), .no] ?_ (seq_f [.va (rgD p lol), .va (.tuple [d1, d2]), .no] ?_ ?_)
  · simp [sDrop, eCall, aCons, aNil, eVar, R.bnd, R.o, fzAll, fz, Ar, s_check_ring h]
  · simp [sIf, bOr, bNot, bT, eOp1, eOp2, eB, eVar, eC, aCons, aNil, R.bnd, R.o, rd, rdAll, lift1, lift2, g1, g2, gNe_int, sNil]
  · have ga : gAll [.list [.bool b1, .bool b2]] = some (.bool (b1 && b2)) := by
      unfold gAll
      simp [bools]
    simp [sSeq, sIf, bNot, bT, eB, eN, nLc, lSeq, itemsOf, lcL, gN, noX, bYes, eCall, aCons, aNil, eVar, eC, eOp2, gSub, lift2, R.bnd, R.o, rd, rdAll, fzAll, fz, Ar, sz, e1, e2, q1, plainAt, plainS, wipeE, backE, ga, hb, sRet, O.f]
theorem isp_ints (h : Rv p lol) (x y : Int) : m_is_paper [rgD p lol, .tuple [.int x, .int y]] = .ok (.bool ((decide (1 ≤ x) && decide (x ≤ p ^ lol.length - 1)) && (decide (1 ≤ y) && decide (y ≤ p ^ lol.length - 1)) && (tmE p lol x y == 0))) := by
  have e1 := s_isint x 1 (p ^ lol.length - 1)
  have e2 := s_isint y 1 (p ^ lol.length - 1)
  generalize hb1 : (decide (1 ≤ x) && decide (x ≤ p ^ lol.length - 1)) = b1 at *
  generalize hb2 : (decide (1 ≤ y) && decide (y ≤ p ^ lol.length - 1)) = b2 at *
  cases hb : (b1 && b2) with
  | false =>
    rw [isp_two h _ _ b1 b2 e1 e2 hb]
    rfl
  | true =>
    show (g_is_paper [.va (rgD p lol), .va (.tuple [.int x, .int y]), .no]).f = _
    unfold g_is_paper
    have g1 : gIsi kTup (.tuple [.int x, .int y]) = some (.bool true) := by
      show some (PyData.bool (kTup "tuple")) = _
      rw [show kTup "tuple" = true by decide +kernel]
    have g2 : gLen [.tuple [.int x, .int y]] = some (.int 2) := rfl
    have q1 : szL 2 = true := rfl
    have sz := s_size_of h.toRg
    have ga : gAll [.list [.bool b1, .bool b2]] = some (.bool (b1 && b2)) := by
      unfold gAll
      simp [bools]
    have i0 : gIx (.tuple [.int x, .int y]) (.int 0) = some (.int x) := rfl
    have i1 : gIx (.tuple [.int x, .int y]) (.int 1) = some (.int y) := rfl
    have tm := s_times h.toRg x y
    refine seq_f [.va (rgD p lol), .va (.tuple [.int x, .int y]), .no] ?_ (seq_f [.va (rgD p lol), .va (.tuple [.int x, .int y]), .no] ?_ (seq_f [.va (rgD p lol), .va (.tuple [.int x, .int y]), .no] ?_ ?_))
    · simp [sDrop, eCall, aCons, aNil, eVar, R.bnd, R.o, fzAll, fz, Ar, s_check_ring h]
    · simp [sIf, bOr, bNot, bT, eOp1, eOp2, eB, eVar, eC, aCons, aNil, R.bnd, R.o, rd, rdAll, lift1, lift2, g1, g2, gNe_int, sNil]
    · simp [sIf, bNot, bT, eB, eN, nLc, lSeq, itemsOf, lcL, gN, noX, bYes, eCall, aCons, aNil, eVar, eC, eOp2, gSub, lift2, R.bnd, R.o, rd, rdAll, fzAll, fz, Ar, sz, e1, e2, q1, plainAt, plainS, wipeE, backE, ga, hb, sNil]
    · simp [sRet, eOp2, eCall, aCons, aNil, eVar, eC, R.bnd, R.o, rd, lift2, fzAll, fz, Ar, i0, i1, tm, gEq_int, O.f]
/-- not a pair at all -/
def noPair : D → Bool
  | .none => true
  | .list _ => true
  | .int _ => true
  | .str _ => true
  | .bool _ => true
  | .tuple ds => !decide (ds.length = 2)
  | _ => false
theorem isp_no (h : Rv p lol) (d : D) (hd : noPair d = true) : m_is_paper [rgD p lol, d] = .ok (.bool false) := by
  show (g_is_paper [.va (rgD p lol), .va d, .no]).f = _
  unfold g_is_paper
  refine seq_f [.va (rgD p lol), .va d, .no] ?_ ?_
  · simp [sDrop, eCall, aCons, aNil, eVar, R.bnd, R.o, fzAll, fz, Ar, s_check_ring h]
  have no : ∀ d, gIsi kTup d = some (.bool false) → (sSeq (sIf (bOr (bNot (bT (eOp1 (gIsi kTup) (eVar 1)))) (bT (eOp2 gNe (eB gLen (aCons (eVar 1) (aNil))) (eC (.int 2))))) (sRet (eC (.bool false))) (sNil)) (sSeq (sIf (bNot (bT (eB gAll (aCons (eN (nLc (lSeq (eVar 1)) (gN 2) (bYes) (eCall (Ar 3 m_is_integer) (aCons (eVar 2) (aCons (eC (.int 1)) (aCons (eOp2 gSub (eCall (Ar 1 m_size_of) (aCons (eVar 0) (aNil))) (eC (.int 1))) (aNil))))) [2])) (aNil))))) (sRet (eC (.bool false))) (sNil))
  (sRet (eOp2 gEq (eCall (Ar 3 m_times) (aCons (eVar 0) (aCons (eOp2 gIx (eVar 1) (eC (.int 0))) (aCons (eOp2 gIx (eVar 1) (eC (.int 1))) (aNil))))) (eC (.int 0))))) [.va (rgD p lol), .va d, .no]).f = .ok (.bool false) := by
    intro d g
    simp [sSeq, sIf, bOr, bNot, bT, eOp1, eVar, eC, R.bnd, R.o, rd, lift1, g, sRet, fz, O.f]
  cases d with
  | tuple ds =>
    have g1 : gIsi kTup (.tuple ds) = some (.bool true) := by
      show some (PyData.bool (kTup "tuple")) = _
      rw [show kTup "tuple" = true by decide +kernel]
    have g2 : gLen [.tuple ds] = some (.int ds.length) := rfl
    have g3 : ((ds.length : Int) == 2) = false := by
      have : ¬ ds.length = 2 := by simpa [noPair] using hd
      simp; omega
    simp [sSeq, sIf, bOr, bNot, bT, eOp1, eOp2, eB, aCons, aNil, eVar, eC, R.bnd, R.o, rd, rdAll, lift1, lift2, g1, g2, gNe_int, g3, sRet, fz, O.f]
  | none => exact no _ (by show some (PyData.bool (kTup "NoneType")) = _; rw [show kTup "NoneType" = false by decide +kernel])
  | list _ => exact no _ (by show some (PyData.bool (kTup "list")) = _; rw [show kTup "list" = false by decide +kernel])
  | int _ => exact no _ (by show some (PyData.bool (kTup "int")) = _; rw [show kTup "int" = false by decide +kernel])
  | str _ => exact no _ (by show some (PyData.bool (kTup "str")) = _; rw [show kTup "str" = false by decide +kernel])
  | bool _ => exact no _ (by show some (PyData.bool (kTup "bool")) = _; rw [show kTup "bool" = false by decide +kernel])
  | dict _ => cases hd
end
end Pf
namespace Pf
open PySem PySem.Spec PyProof.Rows L2
/-! ### shapes -/
def Shp (k : Nat) (d : D) : Prop := PyData.canLay0 d = true ∧ PyData.depth d ≤ k
theorem Shp.int (k : Nat) (i : Int) : Shp k (.int i) := ⟨by simp [PyData.canLay0], by simp [PyData.depth]⟩
theorem Shp.bool (k : Nat) (i : Bool) : Shp k (.bool i) := ⟨by simp [PyData.canLay0], by simp [PyData.depth]⟩
theorem Shp.none (k : Nat) : Shp k .none := ⟨by simp [PyData.canLay0], by simp [PyData.depth]⟩
theorem shp_all {k : Nat} : ∀ {ds : List D}, (∀ d ∈ ds, Shp k d) → PyData.canLayAll0 ds = true ∧ PyData.depthAll ds ≤ k
  | [], _ => ⟨by simp [PyData.canLayAll0], by simp [PyData.depthAll]⟩
  | d :: ds, h => by
    obtain ⟨h1, h2⟩ := h d (by simp)
    obtain ⟨h3, h4⟩ := shp_all (ds := ds) fun x hx => h x (by simp [hx])
    exact ⟨by simp [PyData.canLayAll0, h1, h3], by simp only [PyData.depthAll]; omega⟩
theorem Shp.list {k : Nat} {ds : List D} (h : ∀ d ∈ ds, Shp k d) : Shp (k + 1) (.list ds) := by
  obtain ⟨h1, h2⟩ := shp_all h
  exact ⟨by simp [PyData.canLay0, h1], by simp only [PyData.depth]; omega⟩
theorem Shp.tuple {k : Nat} {ds : List D} (h : ∀ d ∈ ds, Shp k d) : Shp (k + 1) (.tuple ds) := by
  obtain ⟨h1, h2⟩ := shp_all h
  exact ⟨by simp [PyData.canLay0, h1], by simp only [PyData.depth]; omega⟩
theorem Shp.ok {k : Nat} {d : D} (h : Shp k d) (hk : k ≤ 64) : SeqAt.shaped d = true := by
  unfold SeqAt.shaped
  rw [h.1, decide_eq_true (Nat.le_trans h.2 hk)]
  rfl
theorem Shp.ints {k : Nat} (l : List Int) : Shp (k + 1) (.list (iL l)) := Shp.list fun d hd => by
  obtain ⟨i, _, rfl⟩ := List.mem_map.mp hd
  exact .int k i
theorem Shp.intsT {k : Nat} (l : List Int) : Shp (k + 1) (.tuple (iL l)) := Shp.tuple fun d hd => by
  obtain ⟨i, _, rfl⟩ := List.mem_map.mp hd
  exact .int k i
theorem Shp.pair {k : Nat} (x y : Int) : Shp (k + 1) (.tuple [.int x, .int y]) := Shp.intsT [x, y]
theorem gEq_shp {a b : D} {j k : Nat} (ha : Shp j a) (hb : Shp k b) (hj : j ≤ 64) (hk : k ≤ 64) : gEq a b = some (.bool (PyData.eqv a b)) := by
  unfold gEq
  rw [ha.ok hj, hb.ok hk]
  rfl
theorem gNe_shp {a b : D} {j k : Nat} (ha : Shp j a) (hb : Shp k b) (hj : j ≤ 64) (hk : k ≤ 64) : gNe a b = some (.bool (!PyData.eqv a b)) := by
  unfold gNe
  rw [ha.ok hj, hb.ok hk]
  rfl
theorem eqv_ints : ∀ a b : List Int, PyData.eqvAll (iL a) (iL b) = decide (a = b)
  | [], [] => by simp [iL, PyData.eqvAll]
  | [], _ :: _ => by simp [iL, PyData.eqvAll]
  | _ :: _, [] => by simp [iL, PyData.eqvAll]
  | x :: a, y :: b => by
    have := eqv_ints a b
    simp only [iL] at this
    simp only [iL, List.map_cons, PyData.eqvAll, this, PyData.eqv]
    rw [Bool.eq_iff_iff]
    simp
theorem eqv_pair (a b x y : Int) : PyData.eqv (.tuple [.int a, .int b]) (.tuple [.int x, .int y]) = (decide (a = x) && decide (b = y)) := by
  have := eqv_ints [a, b] [x, y]
  simp only [iL, List.map_cons, List.map_nil] at this
  rw [PyData.eqv, this, Bool.eq_iff_iff]
  simp
/-! ### x[k] = v -/
theorem item_step {i : Nat} {fi fe : M Vd} {e : En} {P : List Int} {k : Nat} {n : Int} (h : e[i]? = some (.ow false (iL P))) (hk : k < P.length) (h1 : fi e = .ok (.dat (.int k)) e) (h2 : fe e = .ok (.dat (.int n)) e) :
    sItem i fi fe e = .nx (e.set i (.ow false (iL (P.set k n)))) := by
  unfold sItem
  rw [h2]
  simp only [R.o, fz, h, h1, rd]
  unfold putAt
  rw [h]
  simp [iL_len, ixN_ok hk, iL_set]
theorem seq_to {g1 g2 : En → O} {env : En} {o : O} (e : En) (h : g1 env = .nx e) (h2 : g2 e = o) : sSeq g1 g2 env = o := by unfold sSeq; rw [h]; exact h2
/-! ### ranges -/
theorem forL_nx {h : D → En → Option En} {b : En → O} {d : D} {ds : List D} {env e e' : En} (h1 : h d env = some e) (h2 : b e = .nx e') : forL h b (d :: ds) env = forL h b ds e' := by
  simp only [forL, h1, h2]
def tmF (p : Int) (lol : List Int) (x y : Int) : Int := cod p (pRun p lol (lol.map fun _ => 0) (dig p lol.length x) (dig p lol.length y))
theorem tmF_ok {p : Int} {lol : List Int} (h : 0 < lol.length) (x y : Int) : tmF p lol x y = tmE p lol x y := pRun_ok h x y
end Pf
namespace Pf
open PySem PySem.Spec PyProof.Rows L2
/-! ### the fields that are known by hand, with tables -/
structure FD where
  p : Int
  lol : List Int
  q : Nat
  tm : Nat
  pl : Nat
  mi : Nat
def FD.t (f : FD) (x y : Nat) : Nat := Nat.mod (Nat.shiftRight f.tm (Nat.mul 5 (Nat.add (Nat.mul f.q x) y))) 32
def FD.a (f : FD) (x y : Nat) : Nat := Nat.mod (Nat.shiftRight f.pl (Nat.mul 5 (Nat.add (Nat.mul f.q x) y))) 32
def FD.m (f : FD) (x : Nat) : Nat := Nat.mod (Nat.shiftRight f.mi (Nat.mul 5 x)) 32
def fds : List FD := [
  ⟨2, [0], 2,
    32768,
    1056,
    32⟩,
  ⟨2, [1], 2,
    32768,
    1056,
    32⟩,
  ⟨2, [1, 1], 4,
    76849175288044735954944,
    1257873498147170388000,
    100384⟩,
  ⟨2, [1, 1, 0], 8,
    208985769616701827085840123152954852478033187635719036164232176083338580047196829227489607811072,
    2222671212794694141534283269429976345017421774852694578975096169606922552458795706466451949600,
    247132686368⟩,
  ⟨2, [1, 0, 1], 8,
    144006482343833344651572237959110940778104564813457242282099058044989617495649637580640272515072,
    2222671212794694141534283269429976345017421774852694578975096169606922552458795706466451949600,
    247132686368⟩,
  ⟨2, [1, 1, 0, 0], 16,
    6611205247545623063790713905720458957841077752496910745817062046454951107331266495178805605341957941520198308025959761425132441317092785613359362757853657583271947147181924323654710313750805473231818564181526973811577033132800852981878978597790374382637455402966531799781009633516368516245344729769383266179540982239137686150882528074516922068071441505512748172385476820876109367214080,
    21660628917095523583602957036327219445931786460243747932575041302463298946191732681705941809655322665869125115900338717058631966062958764679964503003727192961304895290211039409933157016991642322345507623299552075025705055613721521472059064666841685595944816075159889035418051231706004417015586104006264679491027986289741274923185526458860957755694890121107878146353932409875061639200,
    583706118939841765935136⟩,
  ⟨2, [1, 0, 0, 1], 16,
    2198190673114121839749590881351315994268578757898782290225361793181101633143281672705362790540384669783669200653505350618053838225383460759398948276821756946217166035685715876716776102935601758994938265375992909916462071440894903718111645007509925589112192912322439945682926290667066755489104632852885258443163288700356475923789107221555346353269416844406151041673373778850167107092480,
    21660628917095523583602957036327219445931786460243747932575041302463298946191732681705941809655322665869125115900338717058631966062958764679964503003727192961304895290211039409933157016991642322345507623299552075025705055613721521472059064666841685595944816075159889035418051231706004417015586104006264679491027986289741274923185526458860957755694890121107878146353932409875061639200,
    583706118939841765935136⟩,
  ⟨2, [1, 1, 1, 1], 16,
    5352104709836605588501496313597187060087749522794710423885095095619378984017610548729572817974327644769222437891314421312062252885585303132626164003470175726144382273300671750334934087243219302664808576831985338239873213212476882372263469723845358498717092901547546350096176697453511220565603330828405563521874373994806612023551445033634365629107081295836441561516108398008538423623680,
    21660628917095523583602957036327219445931786460243747932575041302463298946191732681705941809655322665869125115900338717058631966062958764679964503003727192961304895290211039409933157016991642322345507623299552075025705055613721521472059064666841685595944816075159889035418051231706004417015586104006264679491027986289741274923185526458860957755694890121107878146353932409875061639200,
    583706118939841765935136⟩,
  ⟨2, [1, 0, 1, 0, 0], 32,
    108047903208776182301821177221103242476143116593955060130293304589979379624792515153448842048557508062944046124406229695296066925914606762581689461002085778494869921253308993299871816092985491976045169017559410915641250367137487077474267762475165846192052592168025461595576071664656168551390812030282810547142273575707685992071951630439607196763160003983695986142552761857137002861441091538854289825063246106996111585522612270594387893792604677643806278420866095200429498834875164278453909318858873928361350451542075359389585350846896032637281038213167798410357414190746885591238672396555286314927225104490276004281802275612186310538897012821309466952071474062567291510724844240328231794507178969064997669581675260890171579661861804781287947179868346279216925369372792570769878690061895251633690187934766853249525474952930834331809573725942322942128859614576856896107208964457676110404290123549830361915177833475321143338419370844702955843687682335496728704246540419906221753620676385508341937256156840096544712112163214344887431563846620792143299057294129562689729500658535791013600437345014523103774325441249963724119162034606046898190840942821086017654297642452944418259132037807734164211605724739782819781353435761009390836216362900777584713462606884327330779408941635095127726452318274311602862610838031905185084111375203469849716078223880040803555184033898903431904408499901976387979014468435507345745772488651003084902781458751948967454175797339287002946443741078296424767125593778879332774650111994871979244289813779477452088152162304,
    195368441440474258571574316382449687484360051702740797359363311426607252969750806726891893875239604663384784652856536641446624899391150697178155212337463661744999272141010970381515687486732830064426675214488701446404079003923327137167721209507519774165522377056512525315771778654675825304946348684059658373569067908199003608136535735228734177449019021841430927659616298429043141075342516384992919991575436250936149012827980663013277740749643131176935237110726328555493877534539725470091214562117895174122397508620759805898238183321917026618475372899008060085111740172523754023542032788985329050859201120783797050216847296004271556765265424187307264576230190569020880626324283140000444337988985548816680968011397532194737108053893698433697189193916004561870719179138670413790006906123847336991815838952753065694238465171366426749554204973264542348198684413053772086898423950728133768194354440362832246333596360281234689354720093188371136776416508720034109456907967873110038451702450717175629553675798840715117629171383581019307098533278755713168598347276621089117145453173709379901319844662430136521796965145492448127215719809957815443428495027167533001231401879460941717110006359293061715017380742889093812271958597406474203620256465236437998041443485904346431621514587342611466296921997678294063843503133573299466782689761383408943008760155781145690572305055358118454129880457991787675316145387791787779140505918558473608645408270165870963301912421275423323917213718971287940485716640945105215095219613006809340941637358265946528144263200,
    1459980823972598128486511383358617792788444579872⟩,
  ⟨3, [1], 3,
    1168299261952,
    1101661243424,
    1088⟩,
  ⟨3, [1, 0], 9,
    15586968764015702712568157778771452852484259313638040401858295881418216071443080730106150686200323360740420026447758884864,
    10583773055631901445943951575797730473326710187196548611996075012024505515092803899649948157155622235601072744596833929248,
    4573309895744⟩,
  ⟨3, [2, 1], 9,
    13398196785522686097753656842776563856749277572451200591627340948839283030770866858287823017218210441253970114670634205184,
    10583773055631901445943951575797730473326710187196548611996075012024505515092803899649948157155622235601072744596833929248,
    4573309895744⟩,
  ⟨3, [1, 2, 0], 27,
    65467564597539007116098912317392628641170637400036816055073328208647599273268482711847922765460354393502716027931804964177089024266414905550232973976603307532028576669327012954034509316877379819582400559225926950609951748463585805587509301828325889351132783188848390691515820743561250202821212189720529303681888233104436547523609611934655331696147430013060457479643565131434038736981903128572160945332052493771005891781905250070151498798992868236264906006436848192791540866116816214373340123744035238942951032515422057234079834971470423942941724621524807555847084063037748752907140664593207351778059176603710777789594728291797733550121443975327511806435425084616664352014496874284720268801742204783793302512089614800836865165773008613620021936084688496666871910906749263849295932363000124816137323446361060359037171302337011800551939878139129804743354005080001174380469595628401802545506040419115204599658123663593744432629272676918122666926597724506298281932322840208821593666924100931434058000095193720848903455065522812421097214162816415644831390664891935449174043430976100483900840631097884672,
    75150505046255314798489685391020665237269972839199016236531863363015665923001742456229351084689902038717653518106513130657617068951229356428726003026906558492358800083830573113440275144003476052792566941892602299777882364067977349437797343320406671996792905576379887716021511817167104349238407880929698114267539042482426851509991408548239687044287684350879104229713496183531221886070170445757491667269417590182330052389652361431412526514097498441893367359840187151311886577666816048503013842125104194134019618082310076531812189072690233597194014516619233243125301861877697925561107732711607147553334350514889071336740785786945591258504409916514741656346870155555294402327657245846420144069164440426495388895400094139477523038370528629171041859228100866534512951703527148976704232518721536083035883438230600251534393140141788263715281931504014876240028758486139783903237238956894586976306404170572266036570986620563972084529839927404151829155220209832186651094278309047543203462320134402358042272281330674243114372448018502334876350344569499375583300284542602561201339169671287012408772920583751712,
    18306815260805972811530360991366254888000⟩,
  ⟨5, [2], 5,
    1416361311664442107489693183995019264,
    4072063962379392259530062419651037216,
    1117312⟩,
  ⟨5, [2, 0], 25,
    23693798219870115311438682262676856814455291745547964824292341183186871174995523907962673072526450940678641458596627641337620015410995912619113533541860829321274352156611125244203103941695063266994749396874091820852881865481527985207236231417138173029179719793544292257450547580676486193727851284672843778498233765414387225393776100161639119661665745444409447776551508887188760237318330602125408371385519675451517736135935704093004076662204965765089585817850551183651484041673004816144511889366511315292361775315485739583620873835628794248188781408626731380059888974998279326802853105553906357142295056362679578395377024045365613365985258818639137964253060606181119933428852917869380354650327186114243034537747043646741987386108945892184796490260882009600932836675487329699335389313127006570961138394851271740471596743795539622443977029559233954427119305502172598595128614760075018501059145529224506238552449564386920824309546747906444230656,
    30329717773642261003921549893081998765667061660560731894026859915599413907008293492522032693955116934077870401172614306025595562382003038506799379697256899948159961899534606080836708593795150019289831096942633609709576656794191964345435355852307598485865194299825812583546867647055096137990229859453556235975272065848633458570817071502579713744727618684400389904391431298128857796680755198000469188642547949795374110751689922214362541327744078310041989315693536341794936577841858162714299985499005898394539532497081470413380888340189376369427877309568349473576353355178009559503644242594155338588067832112666954524723704121089290640491998938416847234157548470498038958178680209368320501444444136391633549235173141715767459251238215944170754582500472057088265067846826775514555432230945963457096158832313444295331297955158213416357146380480856960961639148531734145842761784180561073685353672144592648694688053162314333233083007711721828747296,
    8276893065260791840833606450215455872⟩,
  ⟨5, [3, 0], 25,
    22261298350074456278207582671425273917290712472707239593210060014783009118615023139356997850858717086741109637479505828129724967688492499747523863797057602863584853613533874514965420513766156466595025822809649096809995820132168682501445770983501222117018470204044695178300896971918345103399136949886880223511894589325394563887744800542374234643051747270739650635940561493762007021716284758633047230991282003145215585094435381093174563325225672167615681336020121557008929196947949325645862675368047793117677075542320201802818451700208588957093989385513314773361555656153987877255046264445297458056647847366903996663302936953162531537324345109888641721614220571021191060571518484713268499393983280922159794786492677099944826261917508811535508277163436550630506532976280201990726922752424173022055464010546778365949275652944297461971911197132361544720425809147358399577955459299075184820218449728798766860974772903307919678938954315938148646912,
    30329717773642261003921549893081998765667061660560731894026859915599413907008293492522032693955116934077870401172614306025595562382003038506799379697256899948159961899534606080836708593795150019289831096942633609709576656794191964345435355852307598485865194299825812583546867647055096137990229859453556235975272065848633458570817071502579713744727618684400389904391431298128857796680755198000469188642547949795374110751689922214362541327744078310041989315693536341794936577841858162714299985499005898394539532497081470413380888340189376369427877309568349473576353355178009559503644242594155338588067832112666954524723704121089290640491998938416847234157548470498038958178680209368320501444444136391633549235173141715767459251238215944170754582500472057088265067846826775514555432230945963457096158832313444295331297955158213416357146380480856960961639148531734145842761784180561073685353672144592648694688053162314333233083007711721828747296,
    8276893065260791840833606450215455872⟩,
  ⟨7, [0], 7,
    1882675736690246780342849792604518804627266628672365554904066585859719168,
    9060377051616286151496516018425273243821178987930921352158111342306363424,
    1144132800⟩,
  ⟨11, [4], 11,
    4421544164967842550640899551722929058940182144726605370226407077145187718636526761230082720401803329363076887748038051570474599486946175864484397161801333032631328155208296775548928,
    38412164933158536379773833782308990332922735858798290287781021783757594350671062191366641274783232079166652158897336509803172336935356275984794619084954420609551061303454649485985824,
    1199710202504512⟩,
  ⟨13, [1], 13,
    7812192329661498593306466006991726772822285713346539294826817564629300441977025598744070379729269386652195236437544928827225959491183318865029989334867569632596285461752056830097450703133345796539773104720317174874464859606176025009977998411824027926528,
    83004543502653423543448026523720503213938432967750191407358691306256013657594152128984695662656977459340238847842299066638126553452673521494813502336876874829762697806653280063720089032777782736934450905431655119114325406833828963936660894462943036540960,
    1228503247364631936⟩]
def fdx : List FD := [
  ⟨3, [0], 3,
    1168299261952,
    1101661243424,
    1088⟩,
  ⟨3, [2], 3,
    1168299261952,
    1101661243424,
    1088⟩,
  ⟨5, [0], 5,
    1416361311664442107489693183995019264,
    4072063962379392259530062419651037216,
    1117312⟩,
  ⟨5, [1], 5,
    1416361311664442107489693183995019264,
    4072063962379392259530062419651037216,
    1117312⟩,
  ⟨5, [3], 5,
    1416361311664442107489693183995019264,
    4072063962379392259530062419651037216,
    1117312⟩,
  ⟨5, [4], 5,
    1416361311664442107489693183995019264,
    4072063962379392259530062419651037216,
    1117312⟩,
  ⟨7, [1], 7,
    1882675736690246780342849792604518804627266628672365554904066585859719168,
    9060377051616286151496516018425273243821178987930921352158111342306363424,
    1144132800⟩,
  ⟨7, [2], 7,
    1882675736690246780342849792604518804627266628672365554904066585859719168,
    9060377051616286151496516018425273243821178987930921352158111342306363424,
    1144132800⟩,
  ⟨7, [3], 7,
    1882675736690246780342849792604518804627266628672365554904066585859719168,
    9060377051616286151496516018425273243821178987930921352158111342306363424,
    1144132800⟩,
  ⟨7, [4], 7,
    1882675736690246780342849792604518804627266628672365554904066585859719168,
    9060377051616286151496516018425273243821178987930921352158111342306363424,
    1144132800⟩,
  ⟨7, [5], 7,
    1882675736690246780342849792604518804627266628672365554904066585859719168,
    9060377051616286151496516018425273243821178987930921352158111342306363424,
    1144132800⟩,
  ⟨7, [6], 7,
    1882675736690246780342849792604518804627266628672365554904066585859719168,
    9060377051616286151496516018425273243821178987930921352158111342306363424,
    1144132800⟩,
  ⟨11, [0], 11,
    4421544164967842550640899551722929058940182144726605370226407077145187718636526761230082720401803329363076887748038051570474599486946175864484397161801333032631328155208296775548928,
    38412164933158536379773833782308990332922735858798290287781021783757594350671062191366641274783232079166652158897336509803172336935356275984794619084954420609551061303454649485985824,
    1199710202504512⟩,
  ⟨11, [1], 11,
    4421544164967842550640899551722929058940182144726605370226407077145187718636526761230082720401803329363076887748038051570474599486946175864484397161801333032631328155208296775548928,
    38412164933158536379773833782308990332922735858798290287781021783757594350671062191366641274783232079166652158897336509803172336935356275984794619084954420609551061303454649485985824,
    1199710202504512⟩,
  ⟨11, [2], 11,
    4421544164967842550640899551722929058940182144726605370226407077145187718636526761230082720401803329363076887748038051570474599486946175864484397161801333032631328155208296775548928,
    38412164933158536379773833782308990332922735858798290287781021783757594350671062191366641274783232079166652158897336509803172336935356275984794619084954420609551061303454649485985824,
    1199710202504512⟩,
  ⟨11, [3], 11,
    4421544164967842550640899551722929058940182144726605370226407077145187718636526761230082720401803329363076887748038051570474599486946175864484397161801333032631328155208296775548928,
    38412164933158536379773833782308990332922735858798290287781021783757594350671062191366641274783232079166652158897336509803172336935356275984794619084954420609551061303454649485985824,
    1199710202504512⟩,
  ⟨11, [5], 11,
    4421544164967842550640899551722929058940182144726605370226407077145187718636526761230082720401803329363076887748038051570474599486946175864484397161801333032631328155208296775548928,
    38412164933158536379773833782308990332922735858798290287781021783757594350671062191366641274783232079166652158897336509803172336935356275984794619084954420609551061303454649485985824,
    1199710202504512⟩,
  ⟨11, [6], 11,
    4421544164967842550640899551722929058940182144726605370226407077145187718636526761230082720401803329363076887748038051570474599486946175864484397161801333032631328155208296775548928,
    38412164933158536379773833782308990332922735858798290287781021783757594350671062191366641274783232079166652158897336509803172336935356275984794619084954420609551061303454649485985824,
    1199710202504512⟩,
  ⟨11, [7], 11,
    4421544164967842550640899551722929058940182144726605370226407077145187718636526761230082720401803329363076887748038051570474599486946175864484397161801333032631328155208296775548928,
    38412164933158536379773833782308990332922735858798290287781021783757594350671062191366641274783232079166652158897336509803172336935356275984794619084954420609551061303454649485985824,
    1199710202504512⟩,
  ⟨11, [8], 11,
    4421544164967842550640899551722929058940182144726605370226407077145187718636526761230082720401803329363076887748038051570474599486946175864484397161801333032631328155208296775548928,
    38412164933158536379773833782308990332922735858798290287781021783757594350671062191366641274783232079166652158897336509803172336935356275984794619084954420609551061303454649485985824,
    1199710202504512⟩,
  ⟨11, [9], 11,
    4421544164967842550640899551722929058940182144726605370226407077145187718636526761230082720401803329363076887748038051570474599486946175864484397161801333032631328155208296775548928,
    38412164933158536379773833782308990332922735858798290287781021783757594350671062191366641274783232079166652158897336509803172336935356275984794619084954420609551061303454649485985824,
    1199710202504512⟩,
  ⟨11, [10], 11,
    4421544164967842550640899551722929058940182144726605370226407077145187718636526761230082720401803329363076887748038051570474599486946175864484397161801333032631328155208296775548928,
    38412164933158536379773833782308990332922735858798290287781021783757594350671062191366641274783232079166652158897336509803172336935356275984794619084954420609551061303454649485985824,
    1199710202504512⟩,
  ⟨13, [0], 13,
    7812192329661498593306466006991726772822285713346539294826817564629300441977025598744070379729269386652195236437544928827225959491183318865029989334867569632596285461752056830097450703133345796539773104720317174874464859606176025009977998411824027926528,
    83004543502653423543448026523720503213938432967750191407358691306256013657594152128984695662656977459340238847842299066638126553452673521494813502336876874829762697806653280063720089032777782736934450905431655119114325406833828963936660894462943036540960,
    1228503247364631936⟩,
  ⟨13, [2], 13,
    7812192329661498593306466006991726772822285713346539294826817564629300441977025598744070379729269386652195236437544928827225959491183318865029989334867569632596285461752056830097450703133345796539773104720317174874464859606176025009977998411824027926528,
    83004543502653423543448026523720503213938432967750191407358691306256013657594152128984695662656977459340238847842299066638126553452673521494813502336876874829762697806653280063720089032777782736934450905431655119114325406833828963936660894462943036540960,
    1228503247364631936⟩,
  ⟨13, [3], 13,
    7812192329661498593306466006991726772822285713346539294826817564629300441977025598744070379729269386652195236437544928827225959491183318865029989334867569632596285461752056830097450703133345796539773104720317174874464859606176025009977998411824027926528,
    83004543502653423543448026523720503213938432967750191407358691306256013657594152128984695662656977459340238847842299066638126553452673521494813502336876874829762697806653280063720089032777782736934450905431655119114325406833828963936660894462943036540960,
    1228503247364631936⟩,
  ⟨13, [4], 13,
    7812192329661498593306466006991726772822285713346539294826817564629300441977025598744070379729269386652195236437544928827225959491183318865029989334867569632596285461752056830097450703133345796539773104720317174874464859606176025009977998411824027926528,
    83004543502653423543448026523720503213938432967750191407358691306256013657594152128984695662656977459340238847842299066638126553452673521494813502336876874829762697806653280063720089032777782736934450905431655119114325406833828963936660894462943036540960,
    1228503247364631936⟩,
  ⟨13, [5], 13,
    7812192329661498593306466006991726772822285713346539294826817564629300441977025598744070379729269386652195236437544928827225959491183318865029989334867569632596285461752056830097450703133345796539773104720317174874464859606176025009977998411824027926528,
    83004543502653423543448026523720503213938432967750191407358691306256013657594152128984695662656977459340238847842299066638126553452673521494813502336876874829762697806653280063720089032777782736934450905431655119114325406833828963936660894462943036540960,
    1228503247364631936⟩,
  ⟨13, [6], 13,
    7812192329661498593306466006991726772822285713346539294826817564629300441977025598744070379729269386652195236437544928827225959491183318865029989334867569632596285461752056830097450703133345796539773104720317174874464859606176025009977998411824027926528,
    83004543502653423543448026523720503213938432967750191407358691306256013657594152128984695662656977459340238847842299066638126553452673521494813502336876874829762697806653280063720089032777782736934450905431655119114325406833828963936660894462943036540960,
    1228503247364631936⟩,
  ⟨13, [7], 13,
    7812192329661498593306466006991726772822285713346539294826817564629300441977025598744070379729269386652195236437544928827225959491183318865029989334867569632596285461752056830097450703133345796539773104720317174874464859606176025009977998411824027926528,
    83004543502653423543448026523720503213938432967750191407358691306256013657594152128984695662656977459340238847842299066638126553452673521494813502336876874829762697806653280063720089032777782736934450905431655119114325406833828963936660894462943036540960,
    1228503247364631936⟩,
  ⟨13, [8], 13,
    7812192329661498593306466006991726772822285713346539294826817564629300441977025598744070379729269386652195236437544928827225959491183318865029989334867569632596285461752056830097450703133345796539773104720317174874464859606176025009977998411824027926528,
    83004543502653423543448026523720503213938432967750191407358691306256013657594152128984695662656977459340238847842299066638126553452673521494813502336876874829762697806653280063720089032777782736934450905431655119114325406833828963936660894462943036540960,
    1228503247364631936⟩,
  ⟨13, [9], 13,
    7812192329661498593306466006991726772822285713346539294826817564629300441977025598744070379729269386652195236437544928827225959491183318865029989334867569632596285461752056830097450703133345796539773104720317174874464859606176025009977998411824027926528,
    83004543502653423543448026523720503213938432967750191407358691306256013657594152128984695662656977459340238847842299066638126553452673521494813502336876874829762697806653280063720089032777782736934450905431655119114325406833828963936660894462943036540960,
    1228503247364631936⟩,
  ⟨13, [10], 13,
    7812192329661498593306466006991726772822285713346539294826817564629300441977025598744070379729269386652195236437544928827225959491183318865029989334867569632596285461752056830097450703133345796539773104720317174874464859606176025009977998411824027926528,
    83004543502653423543448026523720503213938432967750191407358691306256013657594152128984695662656977459340238847842299066638126553452673521494813502336876874829762697806653280063720089032777782736934450905431655119114325406833828963936660894462943036540960,
    1228503247364631936⟩,
  ⟨13, [11], 13,
    7812192329661498593306466006991726772822285713346539294826817564629300441977025598744070379729269386652195236437544928827225959491183318865029989334867569632596285461752056830097450703133345796539773104720317174874464859606176025009977998411824027926528,
    83004543502653423543448026523720503213938432967750191407358691306256013657594152128984695662656977459340238847842299066638126553452673521494813502336876874829762697806653280063720089032777782736934450905431655119114325406833828963936660894462943036540960,
    1228503247364631936⟩,
  ⟨13, [12], 13,
    7812192329661498593306466006991726772822285713346539294826817564629300441977025598744070379729269386652195236437544928827225959491183318865029989334867569632596285461752056830097450703133345796539773104720317174874464859606176025009977998411824027926528,
    83004543502653423543448026523720503213938432967750191407358691306256013657594152128984695662656977459340238847842299066638126553452673521494813502336876874829762697806653280063720089032777782736934450905431655119114325406833828963936660894462943036540960,
    1228503247364631936⟩,
  ⟨31, [0], 31,
    93660345625081420108222781697660903920850857928028135510974091389858120314338442595560192342659360183957575987030545299697182857349128092334341668519577895457464661881274940993223773932365049164970224177854272142512869566537287556545658517701783325454325669386152298499667664951217904070784042136227526880922181709830059311222070414758207227666300294977750521263884753188544740460091749856566949627875817883024729539349626796450304975874334923932284743103384040571962920016900406819233875388046901263675357267193579024976648297483452519459917329744953947398993341418915627419549960568594084681475170409512172015536632665210309423497981340974856166919007215738904807738402028261728258457369650724936752088366301509149738625063129886397788168032931822380479111197212380852190902138634367362228882186012210144360985295290643840989399987766440264137724017236992574936488944791907155351136996843166157678291200149945711429369127553918614753335006674846885065641659036128261724323252227038991809223643611407204152134114809613531523051114573719300563667930122670907932082859889125021269276080220070203743477007162601141211129484444327034784539875629127712808552825049158843026621975967640751499372315042552512845062391303991555733425473591010709638000849896183792509336604850094902843034253408781990205568461842486102097672323770983109493290141170338622568256560558133401030388713167460131432609376374515202331960051269008118493534835745243005498425344,
    2628343449103847351787001811390609116278877257820449699385327270097796795987254859475723144921368445050287759137761283337350343189640555124081933985342016351560238887507006554718771583506524448253139740803244441037063734189824253446528157602894106110906879213361037931216982292842777856508013308148084711002112157409756722698678416357769624071902736956034835550098142230064943899601069982368585982292197035952337756284155245194971752050596147716853008614811681610810608928650900450907252782772671818128679820827967282142958557522538391421220803813746259367966345886504107129555089856924696897764918734873896242936002394631477893513702841205971741890991899548895511541680695611859885984957612283325997814344547542662904866931424410424943582017478098709992878966911426898786722130416487995232829473262855582112947153109074985224831126284218755781419228439317702042974431161782754143421602801311233554375469804409262166508634904552788107919986938703951962828105889408172756383781260345587744191136368428252391114353713507667467471713399793308399478506363990990336967550299607892128796174886000535738704061356610461813637133184609091486894870088711566263532362325132201314202388483568096389856490558389148786126829473645526178453381115757650476046843758143448553608435506465522680167529827087653143325997914606194949291241759370745814521465048729195399654356104516520638672894996389442352903678371369851880076383173999728815989139548627218391304865824,
    1520813358304789717173449357665226867487963072⟩,
  ⟨31, [3], 31,
    93660345625081420108222781697660903920850857928028135510974091389858120314338442595560192342659360183957575987030545299697182857349128092334341668519577895457464661881274940993223773932365049164970224177854272142512869566537287556545658517701783325454325669386152298499667664951217904070784042136227526880922181709830059311222070414758207227666300294977750521263884753188544740460091749856566949627875817883024729539349626796450304975874334923932284743103384040571962920016900406819233875388046901263675357267193579024976648297483452519459917329744953947398993341418915627419549960568594084681475170409512172015536632665210309423497981340974856166919007215738904807738402028261728258457369650724936752088366301509149738625063129886397788168032931822380479111197212380852190902138634367362228882186012210144360985295290643840989399987766440264137724017236992574936488944791907155351136996843166157678291200149945711429369127553918614753335006674846885065641659036128261724323252227038991809223643611407204152134114809613531523051114573719300563667930122670907932082859889125021269276080220070203743477007162601141211129484444327034784539875629127712808552825049158843026621975967640751499372315042552512845062391303991555733425473591010709638000849896183792509336604850094902843034253408781990205568461842486102097672323770983109493290141170338622568256560558133401030388713167460131432609376374515202331960051269008118493534835745243005498425344,
    2628343449103847351787001811390609116278877257820449699385327270097796795987254859475723144921368445050287759137761283337350343189640555124081933985342016351560238887507006554718771583506524448253139740803244441037063734189824253446528157602894106110906879213361037931216982292842777856508013308148084711002112157409756722698678416357769624071902736956034835550098142230064943899601069982368585982292197035952337756284155245194971752050596147716853008614811681610810608928650900450907252782772671818128679820827967282142958557522538391421220803813746259367966345886504107129555089856924696897764918734873896242936002394631477893513702841205971741890991899548895511541680695611859885984957612283325997814344547542662904866931424410424943582017478098709992878966911426898786722130416487995232829473262855582112947153109074985224831126284218755781419228439317702042974431161782754143421602801311233554375469804409262166508634904552788107919986938703951962828105889408172756383781260345587744191136368428252391114353713507667467471713399793308399478506363990990336967550299607892128796174886000535738704061356610461813637133184609091486894870088711566263532362325132201314202388483568096389856490558389148786126829473645526178453381115757650476046843758143448553608435506465522680167529827087653143325997914606194949291241759370745814521465048729195399654356104516520638672894996389442352903678371369851880076383173999728815989139548627218391304865824,
    1520813358304789717173449357665226867487963072⟩]
def fdA : List FD := fds ++ fdx
/-- all below n -/
def allB (n : Nat) (f : Nat → Bool) : Bool := Nat.rec true (fun k ih => f k && ih) n
theorem allB_ok {f : Nat → Bool} : ∀ {n : Nat}, allB n f = true → ∀ k, k < n → f k = true
  | 0, _, k, h => by omega
  | n + 1, h, k, hk => by
    obtain ⟨h1, h2⟩ := He.ba (show (f n && allB n f) = true from h)
    by_cases e : k = n
    · subst e; exact h1
    · exact allB_ok h2 k (by omega)
def okR (p : Int) (lol : List Int) : Bool := decide (2 ≤ p) && (decide (p ≤ 31) && (decide (1 ≤ lol.length) && (decide (lol.length ≤ 5) && (lol.all (fun c => decide (0 ≤ c ∧ c < p)) && (decide (p ∈ ([2, 3, 5, 7, 11, 13, 17, 19, 23, 29, 31] : List Int)) && decide (p ^ lol.length ≤ 32))))))
theorem okR_ok {p : Int} {lol : List Int} (h : okR p lol = true) : Rv p lol := by
  obtain ⟨h1, h⟩ := He.ba h
  obtain ⟨h2, h⟩ := He.ba h
  obtain ⟨h3, h⟩ := He.ba h
  obtain ⟨h4, h⟩ := He.ba h
  obtain ⟨h5, h⟩ := He.ba h
  obtain ⟨h6, h7⟩ := He.ba h
  exact ⟨⟨of_decide_eq_true h1, of_decide_eq_true h2, of_decide_eq_true h3, of_decide_eq_true h4, fun c hc => of_decide_eq_true (List.all_eq_true.mp h5 c hc)⟩, of_decide_eq_true h6, of_decide_eq_true h7⟩
def isNo (r : Rf) : Bool := match r with
  | .ok .none => true
  | _ => false
theorem isNo_ok {r : Rf} (h : isNo r = true) : r = .ok .none := by
  cases r with
  | ok d => cases d with
    | none => rfl
    | _ => cases h
  | _ => cases h
def eqI (i : Int) (n : Nat) : Bool := match i with
  | .ofNat m => Nat.beq m n
  | _ => false
theorem eqI_ok {i : Int} {n : Nat} (h : eqI i n = true) : i = n := by
  cases i with
  | ofNat m => rw [Nat.eq_of_beq_eq_true h]; rfl
  | negSucc m => cases h
def okFD (f : FD) : Bool := okR f.p f.lol && (eqI (f.p ^ f.lol.length) f.q && (isNo (m_split [rgD f.p f.lol]) && (allB f.q fun x => eqI (miE f.p f.lol.length (.ofNat x)) (f.m x) && allB f.q fun y => eqI (tmF f.p f.lol (.ofNat x) (.ofNat y)) (f.t x y) && eqI (plE f.p f.lol.length (.ofNat x) (.ofNat y)) (f.a x y))))
theorem fdA_ok : fdA.all okFD = true := by decide +kernel
structure FOk (f : FD) : Prop where
  rv : Rv f.p f.lol
  hq : f.p ^ f.lol.length = f.q
  sp : m_split [rgD f.p f.lol] = .ok .none
  tm : ∀ x y : Nat, x < f.q → y < f.q → tmE f.p f.lol x y = f.t x y
  pl : ∀ x y : Nat, x < f.q → y < f.q → plE f.p f.lol.length x y = f.a x y
  mi : ∀ x : Nat, x < f.q → miE f.p f.lol.length x = f.m x
theorem fokA {f : FD} (h : f ∈ fdA) : FOk f := by
  have h := List.all_eq_true.mp fdA_ok f h
  obtain ⟨h1, h⟩ := He.ba h
  obtain ⟨h2, h⟩ := He.ba h
  obtain ⟨h3, h4⟩ := He.ba h
  have rv := okR_ok h1
  refine ⟨rv, eqI_ok h2, isNo_ok h3, fun x y hx hy => ?_, fun x y hx hy => ?_, fun x hx => ?_⟩
  · have := (He.ba (allB_ok (He.ba (allB_ok h4 x hx)).2 y hy)).1
    rw [← tmF_ok rv.n1]
    exact eqI_ok this
  · exact eqI_ok (He.ba (allB_ok (He.ba (allB_ok h4 x hx)).2 y hy)).2
  · exact eqI_ok (He.ba (allB_ok h4 x hx)).1
theorem fds_A {f : FD} (h : f ∈ fds) : f ∈ fdA := List.mem_append_left _ h
theorem fok {f : FD} (h : f ∈ fds) : FOk f := fokA (fds_A h)
def fdD (f : FD) : D := rgD f.p f.lol
theorem s_known : m__law_known_fields [] = .ok (.list (fds.map fdD)) := by
  show (g__law_known_fields [.no]).f = _
  kernel_rfl
theorem s_some_field (ns : List Int) (hn : ns.length ≤ 63) (t : Nat) (ht : t ≤ 9000) : ∃ f, f ∈ fds ∧ m__law_some_field ns (z0 t) [] = .ok (fdD f) (z0 (t + 1)) := by
  obtain ⟨i, d, hd, e⟩ := s_pick ns hn t (by omega) (fds.map fdD) (by decide)
  rw [List.getElem?_map] at hd
  cases q : fds[i]? with
  | none => rw [q] at hd; cases hd
  | some f =>
    rw [q] at hd
    cases hd
    refine ⟨f, List.mem_of_getElem? q, ?_⟩
    show (g__law_some_field [.sc ns, .ow true (z0 t)]).t = _
    unfold g__law_some_field
    simp [sRet, eDraw, ArD, eCall0, s_known, aCons, aNil, eVar, R.bnd, R.o, fzAll, fz, e, O.t, townOf]
end Pf
namespace Pf
open PySem PySem.Spec PyProof.Rows L2
/-! ### mirrors that look into the tables -/
def eqL : List D → List Int → Bool
  | [], [] => true
  | .int i :: ds, j :: l => decide (i = j) && eqL ds l
  | _, _ => false
theorem eqL_ok : ∀ {ds : List D} {l : List Int}, eqL ds l = true → ds = iL l
  | [], [], _ => rfl
  | [], _ :: _, h => by cases h
  | d :: ds, [], h => by cases d <;> cases h
  | d :: ds, j :: l, h => by
    cases d with
    | int i =>
      obtain ⟨h1, h2⟩ := He.ba (show (decide (i = j) && eqL ds l) = true from h)
      rw [of_decide_eq_true h1, eqL_ok h2]
      rfl
    | _ => cases h
def fOf (d : D) : Option FD := match d with
  | .tuple [.int p, .tuple ds] => fdA.find? fun f => decide (p = f.p) && eqL ds f.lol
  | _ => none
theorem fOf_ok {d : D} {f : FD} (h : fOf d = some f) : f ∈ fdA ∧ d = fdD f := by
  unfold fOf at h
  split at h
  · rename_i p ds
    have h1 := List.find?_some h
    obtain ⟨h2, h3⟩ := He.ba h1
    refine ⟨List.mem_of_find?_eq_some h, ?_⟩
    rw [of_decide_eq_true h2, eqL_ok h3]
    rfl
  · cases h
def natB (i : Int) (q : Nat) : Option Nat := match i with
  | .ofNat n => if Nat.blt n q = true then some n else none
  | _ => none
theorem natB_ok {i : Int} {q n : Nat} (h : natB i q = some n) : i = n ∧ n < q := by
  cases i with
  | ofNat m =>
    unfold natB at h
    simp only at h
    split at h
    · rename_i hb
      cases h
      exact ⟨rfl, Nat.blt_eq.mp hb⟩
    · cases h
  | negSucc m => cases h
def fast0 (g : FD → D) (ds : List D) : Option Rf := match ds with
  | [r] => (match fOf r with
    | some f => some (.ok (g f))
    | none => none)
  | _ => none
def fast1 (g : FD → Nat → D) (ds : List D) : Option Rf := match ds with
  | [r, .int x] => (match fOf r with
    | some f => (match natB x f.q with
      | some a => some (.ok (g f a))
      | none => none)
    | none => none)
  | _ => none
def fast2 (g : FD → Nat → Nat → D) (ds : List D) : Option Rf := match ds with
  | [r, .int x, .int y] => (match fOf r with
    | some f => (match natB x f.q with
      | some a => (match natB y f.q with
        | some b => some (.ok (g f a b))
        | none => none)
      | none => none)
    | none => none)
  | _ => none
/-- an exponent beside an element -/
def fastE (n : Nat) (g : FD → Nat → Nat → D) (ds : List D) : Option Rf := match ds with
  | [r, .int x, .int y] => (match fOf r with
    | some f => (match natB x f.q with
      | some a => (match natB y n with
        | some b => some (.ok (g f a b))
        | none => none)
      | none => none)
    | none => none)
  | _ => none
def mm (fast : List D → Option Rf) (m : List D → Rf) (ds : List D) : Rf := match fast ds with
  | some r => r
  | none => m ds
theorem mm_eq {fast : List D → Option Rf} {m : List D → Rf} (h : ∀ ds r, fast ds = some r → m ds = r) : mm fast m = m := by
  funext ds
  unfold mm
  cases q : fast ds with
  | none => rfl
  | some r => exact (h ds r q).symm
theorem fast0_ok {g : FD → D} {m : List D → Rf} (h : ∀ f, FOk f → m [fdD f] = .ok (g f)) : mm (fast0 g) m = m := mm_eq fun ds r e => by
  unfold fast0 at e
  split at e
  · split at e
    · rename_i f q
      cases e
      obtain ⟨h1, rfl⟩ := fOf_ok q
      exact h f (fokA h1)
    · cases e
  · cases e
theorem fast1_ok {g : FD → Nat → D} {m : List D → Rf} (h : ∀ f x, FOk f → x < f.q → m [fdD f, .int x] = .ok (g f x)) : mm (fast1 g) m = m := mm_eq fun ds r e => by
  unfold fast1 at e
  split at e
  · split at e
    · rename_i f q
      split at e
      · rename_i a qa
        cases e
        obtain ⟨h1, rfl⟩ := fOf_ok q
        obtain ⟨rfl, h3⟩ := natB_ok qa
        exact h f a (fokA h1) h3
      · cases e
    · cases e
  · cases e
theorem fastE_ok {n : Nat} {g : FD → Nat → Nat → D} {m : List D → Rf} (h : ∀ f x y, FOk f → x < f.q → y < n → m [fdD f, .int x, .int y] = .ok (g f x y)) : mm (fastE n g) m = m := mm_eq fun ds r e => by
  unfold fastE at e
  split at e
  · split at e
    · rename_i f q
      split at e
      · rename_i a qa
        split at e
        · rename_i b qb
          cases e
          obtain ⟨h1, rfl⟩ := fOf_ok q
          obtain ⟨rfl, h3⟩ := natB_ok qa
          obtain ⟨rfl, h4⟩ := natB_ok qb
          exact h f a b (fokA h1) h3 h4
        · cases e
      · cases e
    · cases e
  · cases e
theorem fast2_ok {g : FD → Nat → Nat → D} {m : List D → Rf} (h : ∀ f x y, FOk f → x < f.q → y < f.q → m [fdD f, .int x, .int y] = .ok (g f x y)) : mm (fast2 g) m = m := mm_eq fun ds r e => by
  unfold fast2 at e
  split at e
  · split at e
    · rename_i f q
      split at e
      · rename_i a qa
        split at e
        · rename_i b qb
          cases e
          obtain ⟨h1, rfl⟩ := fOf_ok q
          obtain ⟨rfl, h3⟩ := natB_ok qa
          obtain ⟨rfl, h4⟩ := natB_ok qb
          exact h f a b (fokA h1) h3 h4
        · cases e
      · cases e
    · cases e
  · cases e
section
variable {f : FD} (F : FOk f)
include F
theorem FOk.lt {x : Nat} (h : x < f.q) : (x : Int) < f.p ^ f.lol.length := by rw [F.hq]; omega
theorem FOk.t_lt {x y : Nat} (hx : x < f.q) (hy : y < f.q) : f.t x y < f.q := by
  have := (tmE_lt (lol := f.lol) F.rv.pos x y).2
  rw [F.tm x y hx hy, F.hq] at this
  omega
theorem FOk.a_lt {x y : Nat} (hx : x < f.q) (hy : y < f.q) : f.a x y < f.q := by
  have := (plE_lt F.rv.pos f.lol.length x y).2
  rw [F.pl x y hx hy, F.hq] at this
  omega
theorem FOk.m_lt {x : Nat} (hx : x < f.q) : f.m x < f.q := by
  have := (miE_lt F.rv.pos f.lol.length x).2
  rw [F.mi x hx, F.hq] at this
  omega
theorem FOk.q2 : 2 ≤ f.q := by
  have := one_lt F.rv.toRg
  rw [F.hq] at this
  omega
end
/-- powers by squares -/
def FD.pw (f : FD) : Nat → Nat → Nat → Nat → Nat
  | 0, _, _, r => r
  | n + 1, x, e, r => match Nat.beq e 0 with
    | true => r
    | false => (match Nat.beq (Nat.mod e 2) 1 with
      | true => f.pw n (f.t x x) (Nat.div e 2) (f.t r x)
      | false => f.pw n (f.t x x) (Nat.div e 2) r)
theorem pw_ok {f : FD} (F : FOk f) : ∀ (n x e r : Nat), e < 2 ^ n → x < f.q → r < f.q → ((f.pw n x e r : Nat) : Int) = tmE f.p f.lol r (pwE f.p f.lol x e) ∧ f.pw n x e r < f.q
  | 0, x, e, r, he, hx, hr => by
    have : e = 0 := by simp at he; omega
    subst this
    exact ⟨(tmE_one F.rv.p2 F.rv.n1 (by omega) (F.lt hr)).symm, hr⟩
  | n + 1, x, e, r, he, hx, hr => by
    unfold FD.pw
    cases h0 : Nat.beq e 0 with
    | true =>
      have : e = 0 := Nat.eq_of_beq_eq_true h0
      subst this
      exact ⟨(tmE_one F.rv.p2 F.rv.n1 (by omega) (F.lt hr)).symm, hr⟩
    | false =>
      have hb2 : e / 2 < 2 ^ n := by rw [Nat.pow_succ] at he; omega
      have hg := F.rv.toRg
      cases h1 : Nat.beq (Nat.mod e 2) 1 with
      | true =>
        have h1 : e % 2 = 1 := Nat.eq_of_beq_eq_true h1
        have ih := pw_ok F n (f.t x x) (e / 2) (f.t r x) hb2 (F.t_lt hx hx) (F.t_lt hr hx)
        refine ⟨?_, ih.2⟩
        show ((f.pw n (f.t x x) (e / 2) (f.t r x) : Nat) : Int) = _
        rw [ih.1, ← F.tm x x hx hx, ← F.tm r x hr hx, pwE_sq hg, tmE_assoc hg.pos, pwE_comm hg]
        rw [show 2 * (e / 2) + 1 = e by omega]
      | false =>
        have h1 : ¬ e % 2 = 1 := fun z => by
          have : Nat.beq (Nat.mod e 2) 1 = true := by
            show Nat.beq (e % 2) 1 = true
            rw [z]; rfl
          rw [this] at h1; cases h1
        have ih := pw_ok F n (f.t x x) (e / 2) r hb2 (F.t_lt hx hx) hr
        refine ⟨?_, ih.2⟩
        show ((f.pw n (f.t x x) (e / 2) r : Nat) : Int) = _
        rw [ih.1, ← F.tm x x hx hx, pwE_sq hg]
        rw [show 2 * (e / 2) = e by omega]
theorem pw_one {f : FD} (F : FOk f) (x e : Nat) (he : e < 2 ^ 14) (hx : x < f.q) : ((f.pw 14 x e 1 : Nat) : Int) = pwE f.p f.lol x e := by
  have h2 := F.q2
  rw [(pw_ok F 14 x e 1 he hx (by omega)).1]
  have hw := pwE_lt F.rv.toRg (x : Int) e
  rw [show ((1 : Nat) : Int) = 1 from rfl, tmE_comm, tmE_one F.rv.p2 F.rv.n1 hw.1 hw.2]
def mm_times := mm (fast2 fun f x y => .int (f.t x y)) m_times
def mm_plus := mm (fast2 fun f x y => .int (f.a x y)) m_plus
def mm_minus := mm (fast1 fun f x => .int (f.m x)) m_minus
def mm_raised := mm (fastE 16384 fun f x e => .int (f.pw 14 x e 1)) m_raised
def mm_power := mm (fastE 10000 fun f x e => .int (f.pw 14 x e 1)) m_power
def mm_add := mm (fast2 fun f x y => .int (f.a x y)) m_add
def mm_multiply := mm (fast2 fun f x y => .int (f.t x y)) m_multiply
def mm_negative := mm (fast1 fun f x => .int (f.m x)) m_negative
def mm_size_of := mm (fast0 fun f => .int f.q) m_size_of
def mm_size := mm (fast0 fun f => .int f.q) m_size
def mm_is_ring := mm (fast0 fun _ => .bool true) m_is_ring
def mm_check_ring := mm (fast0 fun _ => .none) m_check_ring
def mm_is_field := mm (fast0 fun _ => .bool true) m_is_field
def mm_check_field := mm (fast0 fun _ => .none) m_check_field
def mm_split := mm (fast0 fun _ => .none) m_split
def mm_check_element := mm (fast1 fun _ _ => .none) m_check_element
def mm_check_two := mm (fast2 fun _ _ _ => .none) m_check_two
def mm__law_size_here := mm (fast0 fun f => .int f.q) m__law_size_here
def mm__law_sum_here := mm (fast2 fun f x y => .int (f.a x y)) m__law_sum_here
def mm__law_product_here := mm (fast2 fun f x y => .int (f.t x y)) m__law_product_here
theorem me_times : mm_times = m_times := fast2_ok fun f x y F hx hy => by rw [← F.tm x y hx hy]; exact s_times F.rv.toRg x y
theorem me_plus : mm_plus = m_plus := fast2_ok fun f x y F hx hy => by rw [← F.pl x y hx hy]; exact s_plus F.rv.pos F.rv.pm F.rv.nm x y
theorem me_minus : mm_minus = m_minus := fast1_ok fun f x F hx => by rw [← F.mi x hx]; exact s_minus F.rv.toRg x
theorem me_raised : mm_raised = m_raised := fastE_ok fun f x e F hx he => by rw [pw_one F x e he hx]; exact s_raised F.rv.toRg x e (Nat.lt_trans he (by decide))
theorem me_power : mm_power = m_power := fastE_ok fun f x e F hx he => by rw [pw_one F x e (Nat.lt_trans he (by decide)) hx]; exact s_power F.rv (by omega) (F.lt hx) e (by omega)
theorem me_add : mm_add = m_add := fast2_ok fun f x y F hx hy => by rw [← F.pl x y hx hy]; exact s_add F.rv (by omega) (F.lt hx) (by omega) (F.lt hy)
theorem me_multiply : mm_multiply = m_multiply := fast2_ok fun f x y F hx hy => by rw [← F.tm x y hx hy]; exact s_multiply F.rv (by omega) (F.lt hx) (by omega) (F.lt hy)
theorem me_negative : mm_negative = m_negative := fast1_ok fun f x F hx => by rw [← F.mi x hx]; exact s_negative F.rv (by omega) (F.lt hx)
theorem me_size_of : mm_size_of = m_size_of := fast0_ok fun f F => by rw [← F.hq]; exact s_size_of F.rv.toRg
theorem me_size : mm_size = m_size := fast0_ok fun f F => by rw [← F.hq]; exact s_size F.rv
theorem me_is_ring : mm_is_ring = m_is_ring := fast0_ok fun f F => s_is_ring F.rv
theorem me_check_ring : mm_check_ring = m_check_ring := fast0_ok fun f F => s_check_ring F.rv
theorem me_is_field : mm_is_field = m_is_field := fast0_ok fun f F => s_is_field F.rv F.sp
theorem s_check_field {p : Int} {lol : List Int} (h : Rv p lol) (e : m_split [rgD p lol] = .ok .none) : m_check_field [rgD p lol] = .ok .none := by
  have i := s_is_field h e
  show (g_check_field [.va (rgD p lol)]).f = _
  unfold g_check_field
  simp [sIf, bNot, bT, eCall, aCons, aNil, eVar, R.bnd, R.o, rd, fzAll, fz, Ar, i, isNon, sNil, O.f]
theorem me_check_field : mm_check_field = m_check_field := fast0_ok fun f F => s_check_field F.rv F.sp
theorem me_split : mm_split = m_split := fast0_ok fun f F => F.sp
theorem me_check_element : mm_check_element = m_check_element := fast1_ok fun f x F hx => s_check_element F.rv.toRg (by omega) (F.lt hx)
theorem me_check_two : mm_check_two = m_check_two := fast2_ok fun f x y F hx hy => s_check_two F.rv (by omega) (F.lt hx) (by omega) (F.lt hy)
theorem me__law_size_here : mm__law_size_here = m__law_size_here := fast0_ok fun f F => by rw [← F.hq]; exact s_size_here F.rv.toRg
theorem me__law_sum_here : mm__law_sum_here = m__law_sum_here := fast2_ok fun f x y F hx hy => by rw [← F.pl x y hx hy, sum_eq]; exact s_plus F.rv.pos F.rv.pm F.rv.nm x y
theorem me__law_product_here : mm__law_product_here = m__law_product_here := fast2_ok fun f x y F hx hy => by rw [← F.tm x y hx hy]; exact s_product F.rv.toRg x y
end Pf
namespace Pf
open PySem PySem.Spec PyProof.Rows L2
def g_fields : En → O := sSeq (sIf (bOr (bNot (bT (eCall (Ar 3 m_is_integer) (aCons (eVar 0) (aCons (eC (.int 2)) (aCons (eC (.int 31)) (aNil))))))) (bT (eOp2 gNotIn (eVar 0) (eC (.tuple [.int 2, .int 3, .int 5, .int 7, .int 11, .int 13, .int 17, .int 19, .int 23, .int 29, .int 31]))))) (sRaise "InvalidNumber") (sNil))
  (sSeq (sIf (bOr (bNot (bT (eCall (Ar 3 m_is_integer) (aCons (eVar 1) (aCons (eC (.int 1)) (aCons (eC (.int 5)) (aNil))))))) (bT (eOp2 gGt (eCall (Ar 2 m_times_itself) (aCons (eVar 0) (aCons (eVar 1) (aNil)))) (eC (.int 32))))) (sRaise "InvalidNumber") (sNil))
  (sRet (eN (nLc (lSeq (eCall (Ar 2 m_lower_parts) (aCons (eVar 0) (aCons (eVar 1) (aNil))))) (gN 2) (bT (eOp2 gIs (eCall (Ar 1 mm_split) (aCons (eTup (aCons (eVar 0) (aCons (eVar 2) (aNil)))) (aNil))) (eC .none))) (eTup (aCons (eVar 0) (aCons (eVar 2) (aNil)))) [2]))))
def m_fields : List D → Rf := runF 3 g_fields
def g__law_monic : En → O := sSeq (sSet 2 (eN (nLst (aCons (eTup (aNil)) (aNil)))))
  (sSeq (sFor (lRng rng1 (aCons (eVar 1) (aNil))) (gN 3) (sSeq (sOwn 4 (nLst (aNil)))
  (sSeq (sFor (lSeq (eVar 2)) (gN 5) (sDrop (eExt 4 (eN (nLc (lRng rng1 (aCons (eVar 0) (aNil))) (gN 6) (bYes) (eOp2 gAdd (eVar 5) (eTup (aCons (eVar 6) (aNil)))) [6])))))
  (sSet 2 (eVar 4)))))
  (sRet (eN (nLc (lSeq (eVar 2)) (gN 5) (bYes) (eOp2 gAdd (eVar 5) (eTup (aCons (eC (.int 1)) (aNil)))) [5]))))
def m__law_monic : List D → Rf := runF 7 g__law_monic
def g_check_nonzero : En → O := sSeq (sDrop (eCall (Ar 1 mm_check_field) (aCons (eVar 0) (aNil))))
  (sSeq (sDrop (eCall (Ar 2 mm_check_element) (aCons (eVar 0) (aCons (eVar 1) (aNil)))))
  (sIf (bT (eOp2 gEq (eVar 1) (eC (.int 0)))) (sRaise "IsZero") (sNil)))
def m_check_nonzero : List D → Rf := runF 2 g_check_nonzero
def g_inverse_of : En → O := sRet (eCall (Ar 3 mm_raised) (aCons (eVar 0) (aCons (eVar 1) (aCons (eOp2 gSub (eCall (Ar 1 mm_size_of) (aCons (eVar 0) (aNil))) (eC (.int 2))) (aNil)))))
def m_inverse_of : List D → Rf := runF 2 g_inverse_of
def g_inverse : En → O := sSeq (sDrop (eCall (Ar 2 m_check_nonzero) (aCons (eVar 0) (aCons (eVar 1) (aNil)))))
  (sRet (eCall (Ar 2 m_inverse_of) (aCons (eVar 0) (aCons (eVar 1) (aNil)))))
def m_inverse : List D → Rf := runF 2 g_inverse
def g_order_of : En → O := sSeq (sPar [2, 3] (aCons (eC (.int 1)) (aCons (eVar 1) (aNil))))
  (sSeq (whL (bT (eOp2 gNe (eVar 3) (eC (.int 1)))) (sPar [3, 2] (aCons (eCall (Ar 3 mm_times) (aCons (eVar 0) (aCons (eVar 3) (aCons (eVar 1) (aNil))))) (aCons (eOp2 gAdd (eVar 2) (eC (.int 1))) (aNil)))) 100)
  (sRet (eVar 2)))
def m_order_of : List D → Rf := runF 4 g_order_of
def g_order : En → O := sSeq (sDrop (eCall (Ar 2 m_check_nonzero) (aCons (eVar 0) (aCons (eVar 1) (aNil)))))
  (sRet (eCall (Ar 2 m_order_of) (aCons (eVar 0) (aCons (eVar 1) (aNil)))))
def m_order : List D → Rf := runF 2 g_order
def g_generators : En → O := sSeq (sDrop (eCall (Ar 1 mm_check_field) (aCons (eVar 0) (aNil))))
  (sRet (eN (nLc (lRng rng2 (aCons (eC (.int 1)) (aCons (eCall (Ar 1 mm_size_of) (aCons (eVar 0) (aNil))) (aNil)))) (gN 1) (bT (eOp2 gEq (eCall (Ar 2 m_order_of) (aCons (eVar 0) (aCons (eVar 1) (aNil)))) (eOp2 gSub (eCall (Ar 1 mm_size_of) (aCons (eVar 0) (aNil))) (eC (.int 1))))) (eVar 1) [1])))
def m_generators : List D → Rf := runF 2 g_generators
def g__law_coprime : En → O := sSeq (whL (bT (eOp2 gGt (eVar 1) (eC (.int 0)))) (sPar [0, 1] (aCons (eVar 1) (aCons (eOp2 gMod (eVar 0) (eVar 1)) (aNil)))) 100)
  (sRet (eOp2 gEq (eVar 0) (eC (.int 1))))
def m__law_coprime : List D → Rf := runF 2 g__law_coprime
def g_logarithm : En → O := sSeq (sDrop (eCall (Ar 1 mm_check_field) (aCons (eVar 0) (aNil))))
  (sSeq (sDrop (eCall (Ar 2 mm_check_element) (aCons (eVar 0) (aCons (eVar 1) (aNil)))))
  (sSeq (sDrop (eCall (Ar 2 mm_check_element) (aCons (eVar 0) (aCons (eVar 2) (aNil)))))
  (sSeq (sIf (bOr (bT (eOp2 gEq (eVar 1) (eC (.int 0)))) (bT (eOp2 gEq (eVar 2) (eC (.int 0))))) (sRaise "IsZero") (sNil))
  (sSeq (sIf (bT (eOp2 gNe (eCall (Ar 2 m_order_of) (aCons (eVar 0) (aCons (eVar 1) (aNil)))) (eOp2 gSub (eCall (Ar 1 mm_size_of) (aCons (eVar 0) (aNil))) (eC (.int 1))))) (sRaise "NotGenerator") (sNil))
  (sSeq (sAsg (eTup (aCons (eC (.int 0)) (aCons (eC (.int 1)) (aNil)))) (gT [3, 4]))
  (sSeq (whL (bT (eOp2 gNe (eVar 4) (eVar 2))) (sPar [4, 3] (aCons (eCall (Ar 3 mm_times) (aCons (eVar 0) (aCons (eVar 4) (aCons (eVar 1) (aNil))))) (aCons (eOp2 gAdd (eVar 3) (eC (.int 1))) (aNil)))) 100)
  (sRet (eVar 3))))))))
def m_logarithm : List D → Rf := runF 5 g_logarithm
def g_path_of : En → O := sSeq (sOwn 2 (nLst (aCons (eVar 1) (aNil))))
  (sSeq (sFor (lSeq (eCut (eOp2 gIx (eVar 0) (eC (.int 1))) (oSome (eC (.int 1))) (oNone))) (gN 3) (sDrop (eApp 2 (eCall (Ar 3 mm_raised) (aCons (eVar 0) (aCons (eOp2 gIx (eVar 2) (eOp1 gNeg (eC (.int 1)))) (aCons (eOp2 gIx (eVar 0) (eC (.int 0))) (aNil))))))))
  (sRet (eVar 2)))
def m_path_of : List D → Rf := runF 4 g_path_of
def g_check_both : En → O := sSeq (sDrop (eCall (Ar 1 mm_check_field) (aCons (eVar 0) (aNil))))
  (sDrop (eCall (Ar 2 mm_check_element) (aCons (eVar 0) (aCons (eVar 1) (aNil)))))
def m_check_both : List D → Rf := runF 2 g_check_both
def g_are_elements : En → O := sSeq (sIf (bOr (bNot (bT (eOp1 (gIsi kTup) (eVar 1)))) (bNot (bT (eChain gLe gLe (eVar 2) (eB gLen (aCons (eVar 1) (aNil))) (eVar 3))))) (sRet (eC (.bool false))) (sNil))
  (sRet (eB gAll (aCons (eN (nLc (lSeq (eVar 1)) (gN 4) (bYes) (eCall (Ar 3 m_is_integer) (aCons (eVar 4) (aCons (eC (.int 0)) (aCons (eOp2 gSub (eCall (Ar 1 mm_size_of) (aCons (eVar 0) (aNil))) (eC (.int 1))) (aNil))))) [4])) (aNil))))
def m_are_elements : List D → Rf := runF 5 g_are_elements
def g_value_at : En → O := sSeq (sSet 3 (eC (.int 0)))
  (sSeq (sFor (lSeq (eOp1 gRev (eVar 1))) (gN 4) (sSet 3 (eCall (Ar 3 mm_plus) (aCons (eVar 0) (aCons (eCall (Ar 3 mm_times) (aCons (eVar 0) (aCons (eVar 3) (aCons (eVar 2) (aNil))))) (aCons (eVar 4) (aNil)))))))
  (sRet (eVar 3)))
def m_value_at : List D → Rf := runF 5 g_value_at
def g_value : En → O := sSeq (sDrop (eCall (Ar 1 mm_check_ring) (aCons (eVar 0) (aNil))))
  (sSeq (sIf (bNot (bT (eCall (Ar 4 m_are_elements) (aCons (eVar 0) (aCons (eVar 1) (aCons (eC (.int 1)) (aCons (eC (.int 32)) (aNil)))))))) (sRaise "InvalidValues") (sNil))
  (sSeq (sDrop (eCall (Ar 2 mm_check_element) (aCons (eVar 0) (aCons (eVar 2) (aNil)))))
  (sRet (eCall (Ar 3 m_value_at) (aCons (eVar 0) (aCons (eVar 1) (aCons (eVar 2) (aNil))))))))
def m_value : List D → Rf := runF 3 g_value
def g_subfield : En → O := sSeq (sDrop (eCall (Ar 1 mm_check_field) (aCons (eVar 0) (aNil))))
  (sSeq (sIf (bOr (bNot (bT (eCall (Ar 3 m_is_integer) (aCons (eVar 1) (aCons (eC (.int 1)) (aCons (eB gLen (aCons (eOp2 gIx (eVar 0) (eC (.int 1))) (aNil))) (aNil))))))) (bT (eOp2 gNe (eOp2 gMod (eB gLen (aCons (eOp2 gIx (eVar 0) (eC (.int 1))) (aNil))) (eVar 1)) (eC (.int 0))))) (sRaise "InvalidNumber") (sNil))
  (sSeq (sOwn 2 (nLst (aNil)))
  (sSeq (sFor (lRng rng1 (aCons (eCall (Ar 1 mm_size_of) (aCons (eVar 0) (aNil))) (aNil))) (gN 3) (sSeq (sSet 4 (eVar 3))
  (sSeq (sFor (lRng rng1 (aCons (eVar 1) (aNil))) (gN 5) (sSet 4 (eCall (Ar 3 mm_raised) (aCons (eVar 0) (aCons (eVar 4) (aCons (eOp2 gIx (eVar 0) (eC (.int 0))) (aNil)))))))
  (sIf (bT (eOp2 gEq (eVar 4) (eVar 3))) (sDrop (eApp 2 (eVar 3))) (sNil)))))
  (sRet (eVar 2)))))
def m_subfield : List D → Rf := runF 6 g_subfield
def g__law_lifted : En → O := sSeq (sFor (lRng rng1 (aCons (eVar 2) (aNil))) (gN 3) (sSeq (sSet 4 (eC (.int 1)))
  (sSeq (sFor (lRng rng1 (aCons (eOp2 gIx (eVar 0) (eC (.int 0))) (aNil))) (gN 5) (sSet 4 (eCall (Ar 3 mm__law_product_here) (aCons (eVar 0) (aCons (eVar 4) (aCons (eVar 1) (aNil)))))))
  (sSet 1 (eVar 4)))))
  (sRet (eVar 1))
def m__law_lifted : List D → Rf := runF 6 g__law_lifted
def g_trace : En → O := sSeq (sDrop (eCall (Ar 2 m_check_both) (aCons (eVar 0) (aCons (eVar 1) (aNil)))))
  (sSeq (sSet 2 (eC (.int 0)))
  (sSeq (sFor (lSeq (eCall (Ar 2 m_path_of) (aCons (eVar 0) (aCons (eVar 1) (aNil))))) (gN 3) (sSet 2 (eCall (Ar 3 mm_plus) (aCons (eVar 0) (aCons (eVar 2) (aCons (eVar 3) (aNil)))))))
  (sRet (eVar 2))))
def m_trace : List D → Rf := runF 4 g_trace
def g_norm : En → O := sSeq (sDrop (eCall (Ar 2 m_check_both) (aCons (eVar 0) (aCons (eVar 1) (aNil)))))
  (sSeq (sSet 2 (eC (.int 1)))
  (sSeq (sFor (lSeq (eCall (Ar 2 m_path_of) (aCons (eVar 0) (aCons (eVar 1) (aNil))))) (gN 3) (sSet 2 (eCall (Ar 3 mm_times) (aCons (eVar 0) (aCons (eVar 2) (aCons (eVar 3) (aNil)))))))
  (sRet (eVar 2))))
def m_norm : List D → Rf := runF 4 g_norm
def g_root_list : En → O := sRet (eN (nLc (lRng rng1 (aCons (eCall (Ar 1 mm_size_of) (aCons (eVar 0) (aNil))) (aNil))) (gN 2) (bT (eOp2 gEq (eCall (Ar 3 mm_times) (aCons (eVar 0) (aCons (eVar 2) (aCons (eVar 2) (aNil))))) (eVar 1))) (eVar 2) [2]))
def m_root_list : List D → Rf := runF 3 g_root_list
def g_is_square : En → O := sSeq (sDrop (eCall (Ar 2 m_check_both) (aCons (eVar 0) (aCons (eVar 1) (aNil)))))
  (sRet (eOp2 gNe (eCall (Ar 2 m_root_list) (aCons (eVar 0) (aCons (eVar 1) (aNil)))) (eN (nLst (aNil)))))
def m_is_square : List D → Rf := runF 2 g_is_square
def g_roots : En → O := sSeq (sDrop (eCall (Ar 2 m_check_both) (aCons (eVar 0) (aCons (eVar 1) (aNil)))))
  (sSeq (sSet 2 (eCall (Ar 2 m_root_list) (aCons (eVar 0) (aCons (eVar 1) (aNil)))))
  (sSeq (sIf (bT (eOp2 gEq (eVar 2) (eN (nLst (aNil))))) (sRaise "NotSquare") (sNil))
  (sRet (eVar 2))))
def m_roots : List D → Rf := runF 3 g_roots
def g_through : En → O := sSeq (sDrop (eCall (Ar 1 mm_check_field) (aCons (eVar 0) (aNil))))
  (sSeq (sSet 2 (eCall (Ar 1 mm_size_of) (aCons (eVar 0) (aNil))))
  (sSeq (sIf (bNot (bT (eCall (Ar 4 m_are_elements) (aCons (eVar 0) (aCons (eVar 1) (aCons (eVar 2) (aCons (eVar 2) (aNil)))))))) (sRaise "InvalidValues") (sNil))
  (sSeq (sParN 3 4 (nLst (aNil)) (eOp2 gMul (eN (nLst (aCons (eC (.int 1)) (aNil)))) (eVar 2)))
  (sSeq (sFor (lRng rng1 (aCons (eVar 2) (aNil))) (gN 5) (sSeq (sSet 6 (eC (.int 0)))
  (sSeq (sFor (lZip (aCons (eVar 1) (aCons (eVar 4) (aNil)))) (gT [7, 8]) (sSet 6 (eCall (Ar 3 mm_plus) (aCons (eVar 0) (aCons (eVar 6) (aCons (eCall (Ar 3 mm_times) (aCons (eVar 0) (aCons (eVar 7) (aCons (eVar 8) (aNil))))) (aNil)))))))
  (sSeq (sDrop (eApp 3 (eVar 6)))
  (sSet 4 (eN (nLc (lEnum (aCons (eVar 4) (aNil))) (gT [9, 8]) (bYes) (eCall (Ar 3 mm_times) (aCons (eVar 0) (aCons (eVar 8) (aCons (eVar 9) (aNil))))) [9, 8])))))))
  (sRet (eOp2 gAdd (eTup (aCons (eOp2 gIx (eVar 1) (eC (.int 0))) (aNil))) (eB gTuple (aCons (eN (nLc (lSeq (eOp1 gRev (eCut (eVar 3) (oNone) (oSome (eOp1 gNeg (eC (.int 1))))))) (gN 6) (bYes) (eCall (Ar 2 mm_minus) (aCons (eVar 0) (aCons (eVar 6) (aNil)))) [6])) (aNil)))))))))
def m_through : List D → Rf := runF 10 g_through
def g__law_value_of : En → O := sSeq (sAsg (eTup (aCons (eC (.int 0)) (aCons (eC (.int 1)) (aNil)))) (gT [3, 4]))
  (sSeq (sFor (lSeq (eVar 1)) (gN 5) (sSeq (sSet 3 (eCall (Ar 3 mm__law_sum_here) (aCons (eVar 0) (aCons (eVar 3) (aCons (eCall (Ar 3 mm__law_product_here) (aCons (eVar 0) (aCons (eVar 5) (aCons (eVar 4) (aNil))))) (aNil))))))
  (sSet 4 (eCall (Ar 3 mm__law_product_here) (aCons (eVar 0) (aCons (eVar 4) (aCons (eVar 2) (aNil))))))))
  (sRet (eVar 3)))
def m__law_value_of : List D → Rf := runF 6 g__law_value_of
def g_check_fields : En → O := sSeq (sDrop (eCall (Ar 1 mm_check_field) (aCons (eVar 0) (aNil))))
  (sSeq (sDrop (eCall (Ar 1 mm_check_field) (aCons (eVar 1) (aNil))))
  (sIf (bT (eOp2 gNe (eCall (Ar 1 mm_size_of) (aCons (eVar 0) (aNil))) (eCall (Ar 1 mm_size_of) (aCons (eVar 1) (aNil))))) (sRaise "DifferentSize") (sNil)))
def m_check_fields : List D → Rf := runF 2 g_check_fields
def g__law_fits : En → O := sSeq (sSet 3 (eCall (Ar 1 mm__law_size_here) (aCons (eVar 0) (aNil))))
  (sSeq (sFor (lRng rng1 (aCons (eVar 3) (aNil))) (gN 4) (sFor (lRng rng2 (aCons (eVar 4) (aCons (eVar 3) (aNil)))) (gN 5) (sSeq (sIf (bT (eOp2 gNe (eOp2 gIx (eVar 2) (eCall (Ar 3 mm__law_sum_here) (aCons (eVar 0) (aCons (eVar 4) (aCons (eVar 5) (aNil)))))) (eCall (Ar 3 mm__law_sum_here) (aCons (eVar 1) (aCons (eOp2 gIx (eVar 2) (eVar 4)) (aCons (eOp2 gIx (eVar 2) (eVar 5)) (aNil))))))) (sRet (eC (.bool false))) (sNil))
  (sIf (bT (eOp2 gNe (eOp2 gIx (eVar 2) (eCall (Ar 3 mm__law_product_here) (aCons (eVar 0) (aCons (eVar 4) (aCons (eVar 5) (aNil)))))) (eCall (Ar 3 mm__law_product_here) (aCons (eVar 1) (aCons (eOp2 gIx (eVar 2) (eVar 4)) (aCons (eOp2 gIx (eVar 2) (eVar 5)) (aNil))))))) (sRet (eC (.bool false))) (sNil)))))
  (sRet (eC (.bool true))))
def m__law_fits : List D → Rf := runF 6 g__law_fits
def g__law_shared_part : En → O := sSeq (whL (bT (eOp2 gGt (eVar 0) (eC (.int 0)))) (sPar [0, 1] (aCons (eOp2 gMod (eVar 1) (eVar 0)) (aCons (eVar 0) (aNil)))) 100)
  (sRet (eVar 1))
def m__law_shared_part : List D → Rf := runF 2 g__law_shared_part
end Pf
namespace Pf
open PySem PySem.Spec PyProof.Rows L2
/-! ### texts -/
def gStr : List D → Option D
  | [.int i] => if Nat.blt i.natAbs.log2 1920 = true then some (.str (toString i)) else none
  | _ => none
def gIntS : List D → Option D
  | [.str a] => if Nat.ble a.length 640 = true then (match PySem.intText? a with
    | some n => some (.int n)
    | none => none) else none
  | _ => none
def gInS : D → D → Option D
  | .str a, .str z => (match a.cps.toList with
    | [c] => some (.bool (decide (c ∈ z.cps.toList)))
    | _ => none)
  | _, _ => none
section
variable {K : PySem.W.Frag}
theorem d_str : RDC K (fun xs H Q => ∃ i, xs = [.int i] ∧ i.natAbs.log2 < 1920 ∧ Q (.str (toString i)) H) gStr := by
  intro F H vs as d l t e Q k
  cases t with
  | nil => cases e
  | cons t ts =>
    cases ts with
    | cons _ _ => cases t <;> cases e
    | nil =>
      cases t with
      | int i =>
        unfold gStr at e
        simp only at e
        split at e
        · rename_i h
          cases e
          exact ⟨i, rfl, Nat.blt_eq.mp h, k _ H (.same (.str _))⟩
        · cases e
      | _ => cases e
theorem d_intS : RDC K (fun xs H Q => ∃ a n, xs = [.str a] ∧ PySem.intText? a = some n ∧ a.length ≤ 640 ∧ Q (.int n) H) gIntS := by
  intro F H vs as d l t e Q k
  cases t with
  | nil => cases e
  | cons t ts =>
    cases ts with
    | cons _ _ => cases t <;> cases e
    | nil =>
      cases t with
      | str a =>
        unfold gIntS at e
        simp only at e
        split at e
        · rename_i h
          split at e
          · rename_i n q
            cases e
            exact ⟨a, n, rfl, q, Nat.le_of_ble_eq_true h, k _ H (.same (.int _))⟩
          · cases e
        · cases e
      | _ => cases e
theorem d_inS : RD2 K (fun x y H Q => ∃ (c : Nat) (z : Str), x = .str ⟨#[c]⟩ ∧ y = .str z ∧ Q (.bl (decide (c ∈ z.cps.toList))) H) gInS := by
  intro F H x y a b d l tx ty e Q k
  cases tx with
  | str a =>
    cases ty with
    | str z =>
      unfold gInS at e
      simp only at e
      split at e
      · rename_i c q
        cases e
        refine ⟨c, z, ?_, rfl, k _ H (.same (.bl _))⟩
        obtain ⟨⟨l⟩⟩ := a
        have q : l = [c] := q
        subst q
        rfl
      · cases e
    | _ => cases e
  | _ => cases e
end
def nSplit (fo fe : M Vd) : M (List D) := fun env => (fo env).bnd fun x e1 => match rd e1 x with
  | some (.str a) => (fe e1).bnd fun y e2 => (match rd e2 y with
    | some (.str b) => if (!(b.length == 0) && Nat.ble a.length 10000) = true then .ok ((Txt.split a b).map PyData.str) e2 else .bad
    | _ => .bad)
  | _ => .bad
def strsOf : List D → Option (List Str)
  | [] => some []
  | .str a :: ds => (strsOf ds).map (a :: ·)
  | _ :: _ => none
def eJoin (fo fe : M Vd) : M Vd := fun env => (fo env).bnd fun x e1 => match rd e1 x with
  | some (.str a) => (fe e1).bnd fun y e2 => (match rd e2 y with
    | some (.list ds) => (match strsOf ds with
      | some ys => if Nat.ble ((ys.map (·.length)).sum + ys.length * a.length) 100000 = true then .ok (.dat (.str (Txt.join a ys))) e2 else .bad
      | none => .bad)
    | _ => .bad)
  | _ => .bad
theorem strs_dq {K : PySem.W.Frag} {F : Hp} : ∀ {vs : List V} {ds : List D} {ys : List Str}, DqAll K F vs ds → strsOf ds = some ys → vs = ys.map V.str
  | _, _, _, .nil, e => by cases e; rfl
  | _, _, ys, .cons h t, e => by
    cases h with
    | str a =>
      unfold strsOf at e
      obtain ⟨l, q1, q2⟩ := Option.map_eq_some_iff.mp e
      subst q2
      rw [List.map_cons, ← strs_dq t q1]
    | _ => cases e
theorem dqAll_strs {K : PySem.W.Frag} {F : Hp} : ∀ l : List Str, DqAll K F (l.map V.str) (l.map PyData.str)
  | [] => .nil
  | a :: l => .cons (.str a) (dqAll_strs l)
section
variable {X : Cx} {W : WX} {o e : Expr} {fo fe : M Vd} {apos pos : Pos}
theorem jn_split (ho : JE X W o fo) (he : JE X W e fe) (hs : starEach [e] X.env = [(false, eval e X.env)] := by rfl) (hbase : attributeBase o "split" X.env (eval o X.env) = eval o X.env := by rfl) (hline : (apos.endLine == pos.line) = true := by rfl) :
    JN X W (.Call (.Attribute o "split" apos) [e] [] pos) (nSplit fo fe) := by
  refine PE.imp (pe_split ho he hs hbase hline) fun σ H Q h => ?_
  obtain ⟨B, F, env, S, h⟩ := h
  refine tE_in S .refl h.bnd fun x e1 v H1 F1 l1 S1 r1 h1 => ?_
  cases q1 : rd e1 x with
  | none => rw [q1] at h1; exact h1.elim
  | some d =>
    have t := S1.tp r1 q1
    cases t with
    | str a =>
      rw [q1] at h1
      refine ⟨⟨a, rfl⟩, ?_⟩
      refine tE_in S1 l1 h1.bnd fun y e2 w H2 F2 l2 S2 r2 h2 => ?_
      cases q2 : rd e2 y with
      | none => rw [q2] at h2; exact h2.elim
      | some d2 =>
        have t2 := S2.tp r2 q2
        cases t2 with
        | str b =>
          rw [q2] at h2
          simp only at h2
          split at h2
          · rename_i hz
            obtain ⟨z1, z2⟩ := He.ba hz
            have z2 := Nat.le_of_ble_eq_true z2
            refine ⟨a, b, rfl, rfl, by simpa using z1, by rw [sizeLine_eq]; omega, fun p n => ?_⟩
            obtain ⟨S3, fr⟩ := S2.fresh n (dqAll_strs (K := X.K) (F := F2) (Txt.split a b))
            exact h2 p _ F2 (l1.trans l2) S3 fr
          · exact h2.elim
        | _ => rw [q2] at h2; exact h2.elim
    | _ => rw [q1] at h1; exact h1.elim
theorem je_join (ho : JE X W o fo) (he : JE X W e fe) (hs : starEach [e] X.env = [(false, eval e X.env)] := by rfl) (hbase : attributeBase o "join" X.env (eval o X.env) = eval o X.env := by rfl) (hline : (apos.endLine == pos.line) = true := by rfl) :
    JE X W (.Call (.Attribute o "join" apos) [e] [] pos) (eJoin fo fe) := by
  refine PE.imp (pe_join ho he hs hbase hline) fun σ H Q h => ?_
  obtain ⟨B, F, env, S, h⟩ := h
  refine tE_in S .refl h.bnd fun x e1 v H1 F1 l1 S1 r1 h1 => ?_
  cases q1 : rd e1 x with
  | none => rw [q1] at h1; exact h1.elim
  | some d =>
    have t := S1.tp r1 q1
    cases t with
    | str a =>
      rw [q1] at h1
      refine ⟨⟨a, rfl⟩, ?_⟩
      refine tE_in S1 l1 h1.bnd fun y e2 w H2 F2 l2 S2 r2 h2 => ?_
      cases q2 : rd e2 y with
      | none => rw [q2] at h2; exact h2.elim
      | some d2 =>
        have t2 := S2.tp r2 q2
        cases t2 with
        | @lst p xs ds g1 g2 =>
          rw [q2] at h2
          simp only at h2
          cases q3 : strsOf ds with
          | none => rw [q3] at h2; exact h2.elim
          | some ys =>
            rw [q3] at h2
            simp only at h2
            split at h2
            · rename_i hz
              have hz := Nat.le_of_ble_eq_true hz
              rw [strs_dq g2 q3] at g1
              exact ⟨a, p, ys, rfl, rfl, .inl (SqL.of g1), by omega, h2 _ H2 F2 (l1.trans l2) S2 (.str _)⟩
            · exact h2.elim
        | _ => rw [q2] at h2; exact h2.elim
    | _ => rw [q1] at h1; exact h1.elim
/-- a, b = a list -/
def gTL (is : List Nat) : D → En → Option En := fun d e => match d with
  | .list ds => setAll is ds e
  | _ => none
theorem jg_lst {is : List Nat} {es : List Expr} {k : Nat} {n : Nat} (hc : X.calm = true) (h : PGs X es (tGs X.K is)) (e : is.length = n := by rfl)
    (hn : (assignEach es X.env).length = n := by rfl) (hst : (assignEach es X.env).findIdx? (·.1) = none := by rfl) : JG X (.Tuple es k pos) (gTL is) :=
  PG.imp (pg_lst hc h hn hst) fun v σ H Q h => by
    obtain ⟨B, F, env, d, e1, S, q, he, k⟩ := h
    cases q with
    | @lst a xs ds q1 q2 =>
      refine ⟨a, xs, rfl, SqL.of (S.fh _ _ q1), ?_, B, F, env, ds, e1, S, q2, he, k⟩
      rw [dqAll_len q2, setAll_len he, e]
    | _ => cases he
/-! ### arguments behind a written text: a token is out -/
abbrev JAT (X : Cx) (W : WX) (es : List Expr) (f : M (List Vd)) : Prop := PAT X es (tA X.K W f)
abbrev JET (X : Cx) (W : WX) (e : Expr) (f : M Vd) : Prop := PET X e (tE X.K W f)
theorem jet_of {a : Expr} {f : M Vd} (h : JE X W a f) : JET X W a f := fun pins s σ H Q _ I q => h.run pins s σ H Q I q
theorem PAT.imp {es : List Expr} {t t' : TA} (h : PAT X es t) (k : ∀ σ H Q, t' σ H Q → t σ H Q) : PAT X es t' := fun pos pins s σ H Q h0 I q => h pos pins s σ H Q h0 I (k σ H Q q)
theorem run_cons {a : Expr} {fa : M Vd} {fr : M (List Vd)} {σ : L2.St} {H : Hp} {Q : List V → Hp → Prop} (h : tA X.K W (aCons fa fr) σ H Q) : tCons (tE X.K W fa) (tA X.K W fr) σ H Q := by
  obtain ⟨B, F, env, S, h⟩ := h
  refine tE_in S .refl h.bnd fun x e1 v H1 F1 l1 S1 r1 h1 => ?_
  refine tA_in S1 l1 h1.bnd fun xs e2 vs H2 F2 l2 S2 r2 h2 => ?_
  exact h2 (v :: vs) H2 F2 (l1.trans l2) S2 (.cons (r1.mono l2) r2)
theorem jat_nil : JAT X W [] aNil := PAT.imp pat_nil fun σ H Q h => by
  obtain ⟨B, F, env, S, h⟩ := h
  exact h [] H F .refl S .nil
theorem jat_cons {a : Expr} {fa : M Vd} {es : List Expr} {fr : M (List Vd)} (ha : JET X W a fa) (hr : JAT X W es fr) (hs : starEach (a :: es) X.env = (false, eval a X.env) :: starEach es X.env := by rfl) : JAT X W (a :: es) (aCons fa fr) :=
  PAT.imp (pat_cons ha hr hs) fun σ H Q h => run_cons (a := a) h
/-- the first is a written text -/
theorem ja_consT {z : Str} {j : Nat} {p : Pos} {es : List Expr} {fr : M (List Vd)} (hr : JAT X W es fr) (hs : starEach (.Constant (.str z) j p :: es) X.env = (false, eval (.Constant (.str z) j p) X.env) :: starEach es X.env := by rfl) :
    JA X W (.Constant (.str z) j p :: es) (aCons (eC (.str z)) fr) := by
  refine PA.imp (t := tCons (tC (.str z)) (tA X.K W fr)) ⟨fun pos pins s σ H Q I h => ?_⟩ fun σ H Q h => ?_
  · rw [hs]
    refine Calls.spliced_cons (Calls.Constant_str (k := j) (pos := p) ?_)
    refine thn (hr pos pins { s with toks := s.toks + 1 } σ H _ (Nat.succ_le_succ (Nat.zero_le _)) (I.tok _) h) fun us s2 ⟨vs, H2, I2, r2, q2⟩ => ?_
    exact ⟨.str z :: vs, H2, I2, .cons ⟨_, rfl⟩ r2, q2⟩
  · have h := run_cons (a := .Constant (.str z) j p) h
    obtain ⟨B, F, env, S, h⟩ := h
    exact h (.str z) H F .refl S (.str z)
/-- x.replace(":", ";") -/
def eRepl (i : Nat) (y z : Str) : M Vd := fun e => match rd e (.sl i) with
  | some (.str a) => if Nat.ble (a.length + (a.length + 1) * z.length) 100000 = true then .ok (.dat (.str (Txt.replace a y z))) e else .bad
  | _ => .bad
theorem jet_repl {i : Nat} {x y z : Str} {p1 c0 c1 : Pos} {j0 j1 : Nat} (hN : X.N[i]? = some x) (hv : Vis X.env.scope x) (hyz : (y == z) = false) (hd : (x == ("__debug__" : Str)) = false := by decide) (hcd : (x == ("__classdict__" : Str)) = false := by decide)
    (hst : starEach [.Constant (.str y) j0 c0, .Constant (.str z) j1 c1] X.env = [(false, eval (.Constant (.str y) j0 c0) X.env), (false, eval (.Constant (.str z) j1 c1) X.env)] := by rfl)
    (hbase : attributeBase (.Name x p1) "replace" X.env (eval (.Name x p1) X.env) = eval (.Name x p1) X.env := by rfl) (hline : (apos.endLine == pos.line) = true := by rfl) :
    JET X W (.Call (.Attribute (.Name x p1) "replace" apos) [.Constant (.str y) j0 c0, .Constant (.str z) j1 c1] [] pos) (eRepl i y z) := by
  intro pins s σ H Q h0 I h
  obtain ⟨B, F1, env, S, h⟩ := h
  unfold eRepl at h
  cases q1 : rd env (.sl i) with
  | none => rw [q1] at h; exact h.elim
  | some d =>
    have hσ : ∃ v, σ[i]? = some (some v) := by
      unfold rd at q1
      simp only at q1
      cases q : env[i]? with
      | none => rw [q] at q1; cases q1
      | some sl =>
        obtain ⟨w, g1, g2⟩ := S.sl i sl q
        rw [q] at q1
        cases sl with
        | no => cases q1
        | sc _ => cases q1
        | ob _ _ => cases q1
        | va d => obtain ⟨y, rfl, _⟩ := g2; exact ⟨y, g1⟩
        | ow b ds => obtain ⟨y, _, rfl, _⟩ := g2; exact ⟨_, g1⟩
    obtain ⟨v, hσ⟩ := hσ
    have t := S.tp (v := v) (vd := .sl i) hσ q1
    cases t with
    | str a =>
      rw [q1] at h
      simp only at h
      split at h
      · rename_i hz
        have hz := Nat.le_of_ble_eq_true hz
        refine PySem.Call_method2 hbase hst hline (raw_name hN hv I hσ (fun u r => ?_) hd hcd)
        obtain ⟨tx, rfl⟩ := r
        refine ⟨"str", _, PySem.F.plainAttrs_str, PySem.F.slot_str_replace, PySem.F.type_str_replace, typeIs_str _ _ _, (fun _ e => nomatch e), Calls.callWith_builtin rfl (Calls.evalArgs_plain (Calls.spliced_cons (Calls.Constant_str ?_)))⟩
        refine Calls.spliced_cons (Calls.Constant_str (Calls.spliced_nil ?_))
        have t0 : s.toks ≠ 0 := by omega
        have t1 : s.toks + 1 ≠ 0 := by omega
        have t2 : s.toks ≠ s.toks + 1 := by omega
        exact PySem.SC.replace t0 t1 t2 hyz (by omega) fun t' k => ⟨.str (Txt.replace a y z), H, I.tok k, ⟨t', rfl⟩, h _ H F1 .refl S (.str _)⟩
      · exact h.elim
    | _ => rw [q1] at h; exact h.elim
end
end Pf
namespace Pf
open PySem PySem.Spec PyProof.Rows L2
def g_text_of : En → O := sRet (eOp2 gAdd (eOp2 gAdd (eB gStr (aCons (eOp2 gIx (eVar 0) (eC (.int 0))) (aNil))) (eC (.str ":"))) (eJoin (eC (.str ",")) (eN (nLc (lSeq (eOp2 gIx (eVar 0) (eC (.int 1)))) (gN 1) (bYes) (eB gStr (aCons (eVar 1) (aNil))) [1]))))
def m_text_of : List D → Rf := runF 2 g_text_of
def g_format_ring : En → O := sSeq (sDrop (eCall (Ar 1 mm_check_ring) (aCons (eVar 0) (aNil))))
  (sRet (eCall (Ar 1 m_text_of) (aCons (eVar 0) (aNil))))
def m_format_ring : List D → Rf := runF 1 g_format_ring
def g_parse_ring : En → O := sSeq (sIf (bOr (bNot (bT (eOp1 (gIsi kStr) (eVar 0)))) (bT (eOp2 gNe (eB gLen (aCons (eN (nSplit (eVar 0) (eC (.str ":")))) (aNil))) (eC (.int 2))))) (sRaise "ParseError") (sNil))
  (sSeq (sAsg (eN (nSplit (eVar 0) (eC (.str ":")))) (gTL [1, 2]))
  (sSeq (sSet 3 (eN (nSplit (eVar 2) (eC (.str ",")))))
  (sSeq (sFor (lSeq (eOp2 gAdd (eN (nLst (aCons (eVar 1) (aNil)))) (eVar 3))) (gN 4) (sIf (bOr (bNot (bT (eChain gLe gLe (eC (.int 1)) (eB gLen (aCons (eVar 4) (aNil))) (eC (.int 2))))) (bNot (bT (eB gAll (aCons (eN (nLc (lSeq (eVar 4)) (gN 5) (bYes) (eOp2 gInS (eVar 5) (eC (.str "0123456789"))) [5])) (aNil)))))) (sRaise "ParseError") (sNil)))
  (sSeq (sSet 6 (eTup (aCons (eB gIntS (aCons (eVar 1) (aNil))) (aCons (eB gTuple (aCons (eN (nLc (lSeq (eVar 3)) (gN 4) (bYes) (eB gIntS (aCons (eVar 4) (aNil))) [4])) (aNil))) (aNil)))))
  (sSeq (sIf (bOr (bNot (bT (eCall (Ar 1 mm_is_ring) (aCons (eVar 6) (aNil))))) (bT (eOp2 gNe (eCall (Ar 1 m_text_of) (aCons (eVar 6) (aNil))) (eVar 0)))) (sRaise "ParseError") (sNil))
  (sRet (eVar 6)))))))
def m_parse_ring : List D → Rf := runF 7 g_parse_ring
end Pf
namespace Pf
open PySem PySem.Spec PyProof.Rows L2
/-! ### defs to which a list and an instance are lent -/
inductive RfE where
  | ok (d : D) (t : Option (List D)) (u : Option Ob)
  | exc (c : Str) (t : Option (List D)) (u : Option Ob)
  | bad
/-- how the lent things are given back -/
structure Fin (K : PySem.W.Frag) (B : Bs) (F H : Hp) (t : Option (List D)) (u : Option Ob) : Prop where
  same : Le B.H0 H
  fh : Le F H
  new : ∀ b o, F b = some o → B.F0 b = some o ∨ B.H0 b = none
  ts : ∀ ds, t = some ds → ∃ vs, H B.t = some (.lst vs) ∧ F B.t = none ∧ B.H0 B.t = none ∧ DqAll K F vs ds
  us : ∀ o, u = some o → ObR K F H B.u o ∧ ∀ x, Ft H B.u o x → F x = none ∧ B.H0 x = none
  ne : ∀ ds o, t = some ds → u = some o → ¬ Ft H B.u o B.t
def spG (K : PySem.W.Frag) (n : Nat) (m : En → RfE) : Sp := fun vs H Q E => vs.length = n ∧ ∃ B F hs, SR K B F hs (vs.map some) H ∧ match m hs with
  | .ok d t u => ∀ v H' F', Le F F' → Fin K B F' H' t u → Dq K F' v d → Q v H'
  | .exc c t u => ∀ H' F', Le F F' → Fin K B F' H' t u → E (.ref (He.ga K c)) none H'
  | .bad => False
def tOf (it : Option Nat) (e : En) : Option (List D) := match it with
  | none => none
  | some i => match e[i]? with
    | some (.ow true ts) => some ts
    | _ => none
def uOf (iu : Option Nat) (e : En) : Option Ob := match iu with
  | none => none
  | some i => match e[i]? with
    | some (.ob true o) => some o
    | _ => none
def O.g (it iu : Option Nat) : O → RfE
  | .rt d e => .ok d (tOf it e) (uOf iu e)
  | .nx e => .ok .none (tOf it e) (uOf iu e)
  | .ex c e => .exc c (tOf it e) (uOf iu e)
  | _ => .bad
def padE (n : Nat) (hs : En) : En := hs ++ List.replicate (n - hs.length) .no
def runG (n : Nat) (it iu : Option Nat) (g : En → O) (hs : En) : RfE := (g (padE n hs)).g it iu
theorem padE_sl {n i : Nat} {hs : En} {s : Sl} (h : (padE n hs)[i]? = some s) : hs[i]? = some s ∨ (s = .no ∧ hs.length ≤ i ∧ i - hs.length < n - hs.length) := by
  unfold padE at h
  by_cases hi : i < hs.length
  · rw [List.getElem?_append_left hi] at h
    exact .inl h
  · rw [List.getElem?_append_right (by omega), List.getElem?_replicate] at h
    split at h
    · cases h
      exact .inr ⟨rfl, by omega, by assumption⟩
    · cases h
theorem SR.pad {K : PySem.W.Frag} {B : Bs} {F H : Hp} {hs : En} {vs : List V} (S : SR K B F hs (vs.map some) H) (N : List Str) : SR K B F (padE N.length hs) (start N vs) H := by
  have hl : hs.length = vs.length := by have := S.len; simpa using this.symm
  have look : ∀ {i : Nat} {v : Option V}, i < hs.length → (start N vs)[i]? = some v → (vs.map some)[i]? = some v := fun {i v} hi h => by
    unfold L2.start at h
    rw [List.getElem?_append_left (by simp; omega)] at h
    exact h
  refine ⟨?_, S.same, S.f0, S.fh, S.new, fun i s h => ?_, fun i j s t v w x ne h1 h2 h3 h4 f1 f2 => ?_⟩
  · unfold L2.start padE
    simp [hl]
  · rcases padE_sl h with h | ⟨rfl, z1, z2⟩
    · obtain ⟨v, g1, g2⟩ := S.sl i s h
      refine ⟨v, ?_, g2⟩
      have hi : i < hs.length := (List.getElem?_eq_some_iff.mp h).1
      unfold L2.start
      rw [List.getElem?_append_left (by simp; omega)]
      exact g1
    · exact ⟨none, start_no (by omega) (by omega), trivial⟩
  · rcases padE_sl h1 with h1 | ⟨rfl, _⟩
    · rcases padE_sl h2 with h2 | ⟨rfl, _⟩
      · exact S.own i j s t v w x ne h1 h2 (look (List.getElem?_eq_some_iff.mp h1).1 h3) (look (List.getElem?_eq_some_iff.mp h2).1 h4) f1 f2
      · exact f2
    · exact f1
theorem SR.fin {K : PySem.W.Frag} {B : Bs} {F H : Hp} {e : En} {σ : L2.St} (S : SR K B F e σ H) {it iu : Option Nat} (ne : ∀ i, it = some i → iu ≠ some i) : Fin K B F H (tOf it e) (uOf iu e) := by
  have T : ∀ ds, tOf it e = some ds → ∃ i, it = some i ∧ e[i]? = some (.ow true ds) := fun ds h => by
    unfold tOf at h
    split at h
    · cases h
    · rename_i i
      split at h
      · rename_i q
        cases h
        exact ⟨i, rfl, q⟩
      · cases h
  have U : ∀ o, uOf iu e = some o → ∃ i, iu = some i ∧ e[i]? = some (.ob true o) := fun o h => by
    unfold uOf at h
    split at h
    · cases h
    · rename_i i
      split at h
      · rename_i q
        cases h
        exact ⟨i, rfl, q⟩
      · cases h
  refine ⟨S.same, S.fh, S.new, fun ds h => ?_, fun o h => ?_, fun ds o h1 h2 f => ?_⟩
  · obtain ⟨i, _, q⟩ := T ds h
    obtain ⟨v, g1, a, vs, rfl, h1, h2, h3, h4, h5⟩ := S.sl i _ q
    have h5 := h5 rfl
    subst h5
    exact ⟨vs, h1, h2, h3, h4⟩
  · obtain ⟨i, _, q⟩ := U o h
    obtain ⟨v, g1, a, rfl, h1, h2, h3⟩ := S.sl i _ q
    have h3 := h3 rfl
    subst h3
    exact ⟨h1, h2⟩
  · obtain ⟨i, i1, q⟩ := T ds h1
    obtain ⟨j, j1, q'⟩ := U o h2
    obtain ⟨v, g1, a, vs, rfl, k1, k2, k3, k4, k5⟩ := S.sl i _ q
    obtain ⟨v', g1', a', rfl, k1', k2', k3'⟩ := S.sl j _ q'
    have k5 := k5 rfl
    have k3' := k3' rfl
    subst k5 k3'
    have ij : i ≠ j := fun z => ne i i1 (z ▸ j1)
    exact S.own i j _ _ _ _ B.t ij q q' g1 g1' rfl ⟨_, rfl, f⟩
theorem fn_gen {P : Program} {w : World} {K : PySem.W.Frag} {mg : Str → Option Value} {base : Heap} {x qual : Str} {params : Arguments} {body : List Stmt} {scope : Scope} {f : Addr} {fd : FuncData} {N ps : List Str} {k : Nat} {g : En → O} {it iu : Option Nat} (F : FunD K x qual params body scope [] [] f fd) (S : FnScope N ps scope) (ne : ∀ i, it = some i → iu ≠ some i)
    (hb : ∀ (cdv : Value) (A : Around) (outer : List Env) (s : Shared) (H : Hp) (E : XK), Room k (A.deeper (envOfC qual scope s.heap.objs.size f cdv)) → JB (cxOf (L2N.CX P w) P w K mg base N qual scope f cdv A outer s H E) (WD E) body g) :
    FnOk P w K mg base (L2N.CX P w) (k + 1) f fd ps (spG K ps.length (runG N.length it iu g)) := by
  refine F.ok S (fun vs H Q E h => h.1) fun cdv A outer s H vs Q E hr h => ⟨_, hb cdv A outer s H E hr, ?_⟩
  obtain ⟨_, B, F0, hs, S0, h⟩ := h
  refine ⟨B, F0, padE N.length hs, S0.pad N, ?_⟩
  unfold runG at h
  cases q : g (padE N.length hs) with
  | nx e =>
    rw [q] at h
    intro σ' H' F' l' S'
    exact h .non H' F' l' (S'.fin ne) .non
  | rt d e =>
    rw [q] at h
    intro v σ' H' F' l' S' z
    exact h v H' F' l' (S'.fin ne) z
  | ex c e =>
    rw [q] at h
    intro σ' H' F' l' S'
    exact h H' F' l' (S'.fin ne)
  | bk e => rw [q] at h; exact h.elim
  | ct e => rw [q] at h; exact h.elim
  | bad => rw [q] at h; exact h.elim
/-! handing over -/
def hand1 (e : En) (it iu jt ju : Option Nat) (i : Nat) (x : Vd) : Option Sl :=
  if it = some i then (match x with
    | .sl j => if jt = some j then (match e[j]? with
      | some (.ow _ ts) => some (.ow true ts)
      | _ => none) else none
    | .dat _ => none)
  else if iu = some i then (match x with
    | .sl j => if ju = some j then (match e[j]? with
      | some (.ob _ o) => some (.ob true o)
      | _ => none) else none
    | .dat _ => none)
  else match x with
    | .dat d => some (.va d)
    | .sl j => match e[j]? with
      | some (.va d) => some (.va d)
      | some (.sc ns) => some (.sc ns)
      | _ => none
def hands (e : En) (it iu jt ju : Option Nat) : Nat → List Vd → Option En
  | _, [] => some []
  | i, x :: xs => match hand1 e it iu jt ju i x, hands e it iu jt ju (i + 1) xs with
    | some s, some hs => some (s :: hs)
    | _, _ => none
def putT (e : En) (jt : Option Nat) (t : Option (List D)) : Option En := match jt with
  | none => some e
  | some j => match t, e[j]? with
    | some ts, some (.ow b _) => some (e.set j (.ow b ts))
    | _, _ => none
def putU (e : En) (ju : Option Nat) (u : Option Ob) : Option En := match ju with
  | none => some e
  | some j => match u, e[j]? with
    | some o, some (.ob b _) => some (e.set j (.ob b o))
    | _, _ => none
def puts (e : En) (jt : Option Nat) (t : Option (List D)) (ju : Option Nat) (u : Option Ob) : Option En := match putT e jt t with
  | some e' => putU e' ju u
  | none => none
theorem hands_get {e : En} {it iu jt ju : Option Nat} : ∀ {xs : List Vd} {k : Nat} {hs : En}, hands e it iu jt ju k xs = some hs → hs.length = xs.length ∧ ∀ i s, hs[i]? = some s → ∃ x, xs[i]? = some x ∧ hand1 e it iu jt ju (k + i) x = some s
  | [], k, hs, h => by
    cases h
    exact ⟨rfl, fun i s h => by simp at h⟩
  | x :: xs, k, hs, h => by
    unfold hands at h
    split at h
    · rename_i s hs' q1 q2
      cases h
      obtain ⟨l, g⟩ := hands_get q2
      refine ⟨by simp [l], fun i s' hi => ?_⟩
      cases i with
      | zero =>
        simp at hi
        subst hi
        exact ⟨x, rfl, q1⟩
      | succ i =>
        obtain ⟨y, y1, y2⟩ := g i s' (by simpa using hi)
        exact ⟨y, by simpa using y1, by rw [show k + (i + 1) = k + 1 + i by omega]; exact y2⟩
    · cases h
theorem VRs.get {K : PySem.W.Frag} {F : Hp} {σ : L2.St} : ∀ {vs : List V} {xs : List Vd} {i : Nat} {x : Vd}, VRs K F σ vs xs → xs[i]? = some x → ∃ v, vs[i]? = some v ∧ VR K F σ v x
  | _, _, _, _, .nil, h => by simp at h
  | _, _, 0, x, .cons a _, h => by simp at h; subst h; exact ⟨_, rfl, a⟩
  | _, _, i + 1, x, .cons _ b, h => by
    obtain ⟨v, h1, h2⟩ := VRs.get (i := i) b (by simpa using h)
    exact ⟨v, by simpa using h1, h2⟩
def adr (σ : L2.St) : Option Nat → Addr
  | none => 0
  | some j => match σ[j]? with
    | some (some (.ref a)) => a
    | _ => 0
/-- what is lent -/
def Lf (e : En) (σ : L2.St) (H : Hp) (jt ju : Option Nat) (x : Addr) : Prop := ∃ (j : Nat) (s : Sl) (v : Option V), (jt = some j ∨ ju = some j) ∧ e[j]? = some s ∧ σ[j]? = some v ∧ Foot H s v x
open Classical in
noncomputable def cutL (e : En) (σ : L2.St) (H : Hp) (jt ju : Option Nat) : Hp := fun x => if Lf e σ H jt ju x then none else H x
theorem cutL_in {e : En} {σ : L2.St} {H : Hp} {jt ju : Option Nat} {x : Addr} (h : Lf e σ H jt ju x) : cutL e σ H jt ju x = none := by unfold cutL; rw [if_pos h]
theorem cutL_out {e : En} {σ : L2.St} {H : Hp} {jt ju : Option Nat} {x : Addr} (h : ¬ Lf e σ H jt ju x) : cutL e σ H jt ju x = H x := by unfold cutL; rw [if_neg h]
theorem cutL_le {e : En} {σ : L2.St} {H : Hp} {jt ju : Option Nat} : Le (cutL e σ H jt ju) H := fun b o h => by
  unfold cutL at h
  split at h
  · cases h
  · exact h
theorem cutL_none {e : En} {σ : L2.St} {H : Hp} {jt ju : Option Nat} {x : Addr} (h : cutL e σ H jt ju x = none) : Lf e σ H jt ju x ∨ H x = none := by
  by_cases q : Lf e σ H jt ju x
  · exact .inl q
  · rw [cutL_out q] at h; exact .inr h
noncomputable abbrev lentB (F : Hp) (e : En) (σ : L2.St) (H : Hp) (jt ju : Option Nat) : Bs := ⟨cutL e σ H jt ju, F, adr σ jt, adr σ ju⟩
section
variable {K : PySem.W.Frag} {B : Bs} {F : Hp} {e : En} {σ : L2.St} {H : Hp} {it iu jt ju : Option Nat}
theorem SR.lend (S : SR K B F e σ H) {vs : List V} {xs : List Vd} {hs : En} (r : VRs K F σ vs xs) (q : hands e it iu jt ju 0 xs = some hs) (ne : ∀ i, it = some i → iu ≠ some i) : SR K (lentB F e σ H jt ju) F hs (vs.map some) H := by
  obtain ⟨hl, hg⟩ := hands_get q
  have rl := r.len
  -- each handed slot
  have each : ∀ i s, hs[i]? = some s → ∃ v, vs[i]? = some v ∧ SlR K F H (lentB F e σ H jt ju) s (some v) ∧
      ((∃ j b ts, it = some i ∧ jt = some j ∧ e[j]? = some (.ow b ts) ∧ σ[j]? = some (some v) ∧ s = .ow true ts) ∨ (∃ j b o, it ≠ some i ∧ iu = some i ∧ ju = some j ∧ e[j]? = some (.ob b o) ∧ σ[j]? = some (some v) ∧ s = .ob true o) ∨ ∀ x, ¬ Foot H s (some v) x) := by
    intro i s h
    obtain ⟨x, x1, x2⟩ := hg i s h
    rw [Nat.zero_add] at x2
    obtain ⟨v, v1, v2⟩ := r.get x1
    refine ⟨v, v1, ?_⟩
    unfold hand1 at x2
    split at x2
    · rename_i z
      cases x with
      | dat d => cases x2
      | sl j =>
        simp only at x2
        split at x2
        · rename_i zj
          split at x2
          · rename_i b ts qj
            cases x2
            have v2 : σ[j]? = some (some v) := v2
            obtain ⟨w, g1, a, ws, rfl, h1, h2, h3, h4, h5⟩ := S.sl j _ qj
            rw [v2] at g1
            cases g1
            refine ⟨⟨a, ws, rfl, h1, h2, cutL_in ⟨j, _, _, .inl zj, qj, v2, rfl⟩, h4, fun _ => ?_⟩, .inl ⟨j, b, ts, z, zj, qj, v2, rfl⟩⟩
            show a = adr σ jt
            unfold adr
            rw [zj]
            simp only
            rw [v2]
          · cases x2
        · cases x2
    · rename_i nz
      split at x2
      · rename_i z
        cases x with
        | dat d => cases x2
        | sl j =>
          simp only at x2
          split at x2
          · rename_i zj
            split at x2
            · rename_i b o qj
              cases x2
              have v2 : σ[j]? = some (some v) := v2
              obtain ⟨w, g1, a, rfl, h1, h2, h3⟩ := S.sl j _ qj
              rw [v2] at g1
              cases g1
              refine ⟨⟨a, rfl, h1, fun x fx => ⟨(h2 x fx).1, cutL_in ⟨j, _, _, .inr zj, qj, v2, a, rfl, fx⟩⟩, fun _ => ?_⟩, .inr (.inl ⟨j, b, o, nz, z, zj, qj, v2, rfl⟩)⟩
              show a = adr σ ju
              unfold adr
              rw [zj]
              simp only
              rw [v2]
            · cases x2
          · cases x2
      · cases x with
        | dat d =>
          cases x2
          exact ⟨⟨v, rfl, v2⟩, .inr (.inr fun x f => f)⟩
        | sl j =>
          simp only at x2
          have v2 : σ[j]? = some (some v) := v2
          split at x2
          · rename_i d qj
            cases x2
            obtain ⟨w, g1, y, rfl, g2⟩ := S.sl j _ qj
            rw [v2] at g1
            cases g1
            exact ⟨⟨v, rfl, g2⟩, .inr (.inr fun x f => f)⟩
          · rename_i ns qj
            cases x2
            obtain ⟨w, g1, a, rfl, g2⟩ := S.sl j _ qj
            rw [v2] at g1
            cases g1
            exact ⟨⟨a, rfl, g2⟩, .inr (.inr fun x f => f)⟩
          · cases x2
  refine ⟨by rw [List.length_map, hl, rl], cutL_le, .refl, S.fh, fun b o h => .inl h, fun i s h => ?_, fun i j s s' v w x ne' h1 h2 h3 h4 f1 f2 => ?_⟩
  · obtain ⟨v, v1, v2, _⟩ := each i s h
    exact ⟨some v, by rw [List.getElem?_map, v1]; rfl, v2⟩
  · obtain ⟨v', v1, _, v3⟩ := each i s h1
    obtain ⟨w', w1, _, w3⟩ := each j s' h2
    rw [List.getElem?_map, v1] at h3
    cases h3
    rw [List.getElem?_map, w1] at h4
    cases h4
    rcases v3 with ⟨a, b, ts, z1, z2, z3, z4, rfl⟩ | ⟨a, b, o, z0, z1, z2, z3, z4, rfl⟩ | z
    · rcases w3 with ⟨a', b', ts', y1, y2, y3, y4, rfl⟩ | ⟨a', b', o', y0, y1, y2, y3, y4, rfl⟩ | y
      · rw [z1] at y1; cases y1; exact ne' rfl
      · have na : a ≠ a' := fun q => by subst q; rw [z3] at y3; cases y3
        exact S.own a a' _ _ _ _ x na z3 y3 z4 y4 f1 f2
      · exact y x f2
    · rcases w3 with ⟨a', b', ts', y1, y2, y3, y4, rfl⟩ | ⟨a', b', o', y0, y1, y2, y3, y4, rfl⟩ | y
      · have na : a ≠ a' := fun q => by subst q; rw [z3] at y3; cases y3
        exact S.own a a' _ _ _ _ x na z3 y3 z4 y4 f1 f2
      · rw [z1] at y1; cases y1; exact ne' rfl
      · exact y x f2
    · exact z x f1
/-- the lent things come back -/
theorem SR.got (S : SR K B F e σ H) {F' H' : Hp} {t : Option (List D)} {u : Option Ob} {e' : En} (l : Le F F') (fn : Fin K (lentB F e σ H jt ju) F' H' t u) (q : puts e jt t ju u = some e') (nj : ∀ j, jt = some j → ju ≠ some j) : SR K B F' e' σ H' := by
  -- what the slots are
  have kinds : e'.length = e.length ∧ ∀ j s', e'[j]? = some s' → ((jt ≠ some j ∧ ju ≠ some j ∧ e[j]? = some s') ∨ (∃ b ts0 ts, jt = some j ∧ t = some ts ∧ e[j]? = some (.ow b ts0) ∧ s' = .ow b ts) ∨ ∃ b o0 o, ju = some j ∧ u = some o ∧ e[j]? = some (.ob b o0) ∧ s' = .ob b o) := by
    unfold puts at q
    split at q
    · rename_i e1 q1
      have k1 : e1.length = e.length ∧ ∀ j s', e1[j]? = some s' → ((jt ≠ some j ∧ e[j]? = some s') ∨ ∃ b ts0 ts, jt = some j ∧ t = some ts ∧ e[j]? = some (.ow b ts0) ∧ s' = .ow b ts) := by
        unfold putT at q1
        split at q1
        · cases q1
          exact ⟨rfl, fun j s' h => .inl ⟨(fun z => nomatch z), h⟩⟩
        · rename_i j
          split at q1
          · rename_i ts b ts0 w2
            cases q1
            refine ⟨by simp, fun k s' h => ?_⟩
            rcases getElem?_set' _ _ _ _ _ h with ⟨rfl, rfl, _⟩ | ⟨n, h⟩
            · exact .inr ⟨b, ts0, ts, rfl, rfl, w2, rfl⟩
            · exact .inl ⟨fun z => n (Option.some.inj z), h⟩
          · cases q1
      unfold putU at q
      split at q
      · cases q
        refine ⟨k1.1, fun j s' h => ?_⟩
        rcases k1.2 j s' h with ⟨a, b⟩ | z
        · exact .inl ⟨a, (fun z => nomatch z), b⟩
        · exact .inr (.inl z)
      · rename_i j
        split at q
        · rename_i o b o0 w2
          cases q
          refine ⟨by simp [k1.1], fun k s' h => ?_⟩
          rcases getElem?_set' _ _ _ _ _ h with ⟨rfl, rfl, _⟩ | ⟨n, h⟩
          · rcases k1.2 _ _ w2 with ⟨a, c⟩ | ⟨b', ts0, ts, c1, _⟩
            · exact .inr (.inr ⟨b, o0, o, rfl, rfl, c, rfl⟩)
            · exact absurd rfl (nj _ c1)
          · rcases k1.2 k s' h with ⟨a, c⟩ | z
            · exact .inl ⟨a, fun z => n (Option.some.inj z), c⟩
            · exact .inr (.inl z)
        · cases q
    · cases q
  have adT : ∀ {j : Nat} {a : Addr}, jt = some j → σ[j]? = some (some (.ref a)) → adr σ jt = a := fun {j a} h1 h2 => by
    unfold adr; rw [h1]; simp only; rw [h2]
  have adU : ∀ {j : Nat} {a : Addr}, ju = some j → σ[j]? = some (some (.ref a)) → adr σ ju = a := fun {j a} h1 h2 => by
    unfold adr; rw [h1]; simp only; rw [h2]
  -- what stands beside the lent things
  have stay : ∀ x o, H x = some o → ¬ Lf e σ H jt ju x → H' x = some o := fun x o h n => fn.same x o (by show cutL e σ H jt ju x = some o; rw [cutL_out n]; exact h)
  have nof : ∀ x o, H x = some o → F x = none → ¬ Lf e σ H jt ju x → F' x = none := fun x o h f n => by
    cases z : F' x with
    | none => rfl
    | some o' =>
      rcases fn.new x o' z with y | y
      · have y : F x = some o' := y
        rw [f] at y; cases y
      · have y : cutL e σ H jt ju x = none := y
        rw [cutL_out n, h] at y; cases y
  have lfH0 : ∀ x, Lf e σ H jt ju x → B.H0 x = none := fun x ⟨j, s, v, _, hj, hv, f⟩ => (S.foot hj hv f).2.2
  have outF : ∀ {j : Nat} {s : Sl} {v : Option V} {x : Addr}, jt ≠ some j → ju ≠ some j → e[j]? = some s → σ[j]? = some v → Foot H s v x → ¬ Lf e σ H jt ju x := fun {j s v x} n1 n2 hj hv f ⟨k, s', v', c, hk, hv', f'⟩ => by
    have jk : j ≠ k := fun z => by subst z; rcases c with c | c; exact n1 c; exact n2 c
    exact S.own j k s s' v v' x jk hj hk hv hv' f f'
  have keepS : ∀ {j : Nat} {s : Sl} {v : Option V}, jt ≠ some j → ju ≠ some j → e[j]? = some s → σ[j]? = some v → SlR K F' H' B s v ∧ ∀ x, Foot H' s v x ↔ Foot H s v x := fun {j s v} n1 n2 hj hv => by
    obtain ⟨w, g1, g2⟩ := S.sl j s hj
    rw [hv] at g1
    cases g1
    refine g2.keep l fun x f => ?_
    obtain ⟨⟨o, h1⟩, h2, _⟩ := S.foot hj hv f
    have n := outF n1 n2 hj hv f
    exact ⟨(stay x o h1 n).trans h1.symm, nof x o h1 h2 n⟩
  -- the feet of a slot behind: old ones of the same slot, or new
  have feet : ∀ {j : Nat} {s' : Sl} {v : Option V} {x : Addr}, e'[j]? = some s' → σ[j]? = some v → Foot H' s' v x → (∃ s, e[j]? = some s ∧ Foot H s v x) ∨ (ju = some j ∧ (H x = none ∨ Lf e σ H jt ju x)) := fun {j s' v x} h1 h2 f => by
    rcases kinds.2 j s' h1 with ⟨n1, n2, h⟩ | ⟨b, ts0, ts, c1, c2, c3, rfl⟩ | ⟨b, o0, o, c1, c2, c3, rfl⟩
    · exact .inl ⟨s', h, ((keepS n1 n2 h h2).2 x).mp f⟩
    · exact .inl ⟨_, c3, f⟩
    · obtain ⟨a, rfl, f⟩ := f
      have ea := adU c1 h2
      have z := (fn.us o c2).2 x (by show Ft H' (adr σ ju) o x; rw [ea]; exact f)
      refine .inr ⟨c1, ?_⟩
      rcases cutL_none z.2 with y | y
      · exact .inr y
      · exact .inl y
  refine ⟨by rw [S.len, kinds.1], fun b o h => ?_, S.f0.trans l, fn.fh, fun b o h => ?_, fun j s' h => ?_, fun i j s s' v w x nij h1 h2 h3 h4 f1 f2 => ?_⟩
  · refine stay b o (S.same b o h) fun z => ?_
    rw [lfH0 b z] at h
    cases h
  · rcases fn.new b o h with y | y
    · exact S.new b o y
    · rcases cutL_none y with y | y
      · exact .inr (lfH0 b y)
      · exact .inr (S.same.none y)
  · rcases kinds.2 j s' h with ⟨n1, n2, h⟩ | ⟨b, ts0, ts, c1, c2, c3, rfl⟩ | ⟨b, o0, o, c1, c2, c3, rfl⟩
    · obtain ⟨v, g1, _⟩ := S.sl j s' h
      exact ⟨v, g1, (keepS n1 n2 h g1).1⟩
    · obtain ⟨v, g1, a, vs, rfl, k1, k2, k3, k4, k5⟩ := S.sl j _ c3
      obtain ⟨ws, w1, w2, w3, w4⟩ := fn.ts ts c2
      have ea : adr σ jt = a := adT c1 g1
      have w1 : H' (adr σ jt) = some (.lst ws) := w1
      have w2 : F' (adr σ jt) = none := w2
      rw [ea] at w1 w2
      exact ⟨_, g1, a, ws, rfl, w1, w2, k3, w4, k5⟩
    · obtain ⟨v, g1, a, rfl, k1, k2, k3⟩ := S.sl j _ c3
      obtain ⟨w1, w2⟩ := fn.us o c2
      have ea : adr σ ju = a := adU c1 g1
      have w1 : ObR K F' H' (adr σ ju) o := w1
      have w2 : ∀ x, Ft H' (adr σ ju) o x → F' x = none ∧ cutL e σ H jt ju x = none := w2
      rw [ea] at w1 w2
      refine ⟨_, g1, a, rfl, w1, fun x f => ⟨(w2 x f).1, ?_⟩, k3⟩
      rcases cutL_none (w2 x f).2 with y | y
      · exact lfH0 x y
      · exact S.same.none y
  · -- two slots
    have step : ∀ {i j : Nat} {s s' : Sl} {v w : Option V}, i ≠ j → e'[i]? = some s → e'[j]? = some s' → σ[i]? = some v → σ[j]? = some w → Foot H' s v x → Foot H' s' w x → ju ≠ some i → False := fun {i j s s' v w} nij h1 h2 h3 h4 f1 f2 ni => by
      rcases feet h1 h3 f1 with ⟨r, r1, r2⟩ | ⟨c, _⟩
      · rcases feet h2 h4 f2 with ⟨r', r3, r4⟩ | ⟨c, y⟩
        · exact S.own i j r r' v w x nij r1 r3 h3 h4 r2 r4
        · obtain ⟨⟨o, hx⟩, _⟩ := S.foot r1 h3 r2
          rcases y with y | ⟨k, r', v', ck, rk, vk, fk⟩
          · rw [hx] at y; cases y
          · -- x belongs to a lent thing, and to slot i
            have ik : i = k := Classical.byContradiction fun z => S.own i k r r' v v' x z r1 rk h3 vk r2 fk
            subst ik
            rcases ck with ck | ck
            · -- i is the lent list's
              rcases kinds.2 i s h1 with ⟨n1, _⟩ | ⟨b, ts0, ts, c1, c2, c3, rfl⟩ | ⟨b, o0, o, c1, _⟩
              · exact n1 ck
              · rcases kinds.2 j s' h2 with ⟨_, n2, _⟩ | ⟨b', ts0', ts', d1, d2, d3, rfl⟩ | ⟨b', o0', o', d1, d2, d3, rfl⟩
                · exact n2 c
                · exact nj _ d1 c
                · obtain ⟨a', rfl, f2⟩ := f2
                  have f1 : v = some (.ref x) := f1
                  subst f1
                  have e1 : adr σ jt = x := adT c1 h3
                  have e2 : adr σ ju = a' := adU d1 h4
                  refine fn.ne ts o' c2 d2 ?_
                  show Ft H' (adr σ ju) o' (adr σ jt)
                  rw [e1, e2]
                  exact f2
              · exact ni c1
            · exact ni ck
      · exact ni c
    by_cases hi : ju = some i
    · have hj : ju ≠ some j := fun z => nij (Option.some.inj (hi.symm.trans z))
      exact step (Ne.symm nij) h2 h1 h4 h3 f2 f1 hj
    · exact step nij h1 h2 h3 h4 f1 f2 hi
end
end Pf
namespace Pf
open PySem PySem.Spec PyProof.Rows L2
/-! ### calls that lend -/
def gRun (n : Nat) (m : En → RfE) (it iu jt ju : Option Nat) (xs : List Vd) (e : En) : R Vd := match hands e it iu jt ju 0 xs with
  | some hs => if hs.length = n then (match m hs with
    | .ok d t u => (match puts e jt t ju u with
      | some e' => .ok (.dat d) e'
      | none => .bad)
    | .exc c t u => (match puts e jt t ju u with
      | some e' => .exc c e'
      | none => .bad)
    | .bad => .bad) else .bad
  | none => .bad
def eG (n : Nat) (m : En → RfE) (it iu jt ju : Option Nat) (fa : M (List Vd)) : M Vd := fun env => (fa env).bnd fun xs e => gRun n m it iu jt ju xs e
theorem g_in {K : PySem.W.Frag} {B : Bs} {F : Hp} {e : En} {σ : L2.St} {H : Hp} {it iu jt ju : Option Nat} {n : Nat} {m : En → RfE} {xs : List Vd} {vs : List V} {P : Vd → En → Prop} {Ex : Str → En → Prop} {Q : VK} {E : XK} (S : SR K B F e σ H) (r : VRs K F σ vs xs)
    (ne : ∀ i, it = some i → iu ≠ some i) (nj : ∀ j, jt = some j → ju ≠ some j) (h : Rs (gRun n m it iu jt ju xs e) P Ex) (k : ∀ d e' v H' F', Le F F' → SR K B F' e' σ H' → Dq K F' v d → P (.dat d) e' → Q v H')
    (kx : ∀ c e' H' F', Le F F' → SR K B F' e' σ H' → Ex c e' → E (.ref (He.ga K c)) none H') : spG K n m vs H Q E := by
  unfold gRun at h
  cases q : hands e it iu jt ju 0 xs with
  | none => rw [q] at h; exact h.elim
  | some hs =>
    rw [q] at h
    simp only at h
    split at h
    · rename_i hn
      have hl := (hands_get q).1
      have rl := r.len
      refine ⟨by omega, lentB F e σ H jt ju, F, hs, S.lend r q ne, ?_⟩
      cases q2 : m hs with
      | bad => rw [q2] at h; exact h.elim
      | ok d t u =>
        rw [q2] at h
        simp only at h ⊢
        intro v H' F' l' fn z
        cases q3 : puts e jt t ju u with
        | none => rw [q3] at h; exact h.elim
        | some e' =>
          rw [q3] at h
          exact k d e' v H' F' l' (S.got l' fn q3 nj) z h
      | exc c t u =>
        rw [q2] at h
        simp only at h ⊢
        intro H' F' l' fn
        cases q3 : puts e jt t ju u with
        | none => rw [q3] at h; exact h.elim
        | some e' =>
          rw [q3] at h
          exact kx c e' H' F' l' (S.got l' fn q3 nj) h
    · exact h.elim
section
variable {X : Cx} {W : WX} {x m : Str} {p pos apos : Pos} {e o : Expr} {es : List Expr} {fa : M (List Vd)} {k n : Nat} {f C : Addr} {fd : FuncData} {ps : List Str} {sp : Sp} {CX : CXT} {E : L2.St → XK} {ta : TE} {t : TA}
theorem je_g {m : En → RfE} {it iu jt ju : Option Nat} (F : FnX X k x (spG X.K n m)) (hr : Room k X.A) (hg : Gl X x) (tk : L2N.Takes X W) (ha : JA X W (e :: es) fa) (ne : ∀ i, it = some i → iu ≠ some i := by decide) (nj : ∀ j, jt = some j → ju ≠ some j := by decide) (hdb : (x == ("__debug__" : Str)) = false := by decide)
    (he : starEach (e :: es) X.env = (false, eval e X.env) :: starEach es X.env := by rfl) (hpl : (backTo pos (starEach es X.env)).any (·.1) = false := by rfl) : JE X W (.Call (.Name x p) (e :: es) [] pos) (eG n m it iu jt ju fa) := by
  obtain ⟨f, fd, ps, F, hm, hk, hb⟩ := F
  refine PE.imp (pe_callS F hr hg hm hk hb (fun σ => L2N.passAt tk σ) ha hdb he hpl) fun σ H Q h => ?_
  obtain ⟨B, F, env, S, h⟩ := h
  refine tA_in S .refl h.bnd fun xs e1 vs H1 F1 l1 S1 r1 h1 => ?_
  exact g_in S1 r1 ne nj h1 (fun d e' v H' F' l' S' z p => p v H' F' (l1.trans l') S' z) fun c e' H' F' l' S' p => p H' F' (l1.trans l') S'
/-! methods -/
def tMthS (C : Addr) (m : Str) (sp : Sp) (E : L2.St → XK) (ta : TE) (t : TA) : TE := fun σ H Q => ta σ H fun x H1 => ∃ a dx fs, x = .ref a ∧ H1 a = some (.ins C dx fs) ∧ fs.lookup m = none ∧
  t σ H1 fun vs H2 => sp (x :: vs) H2 Q (E σ)
theorem pe_mthS {pl : Sem Bool} (he : PE X o ta) (c : Cls X.K C) (hm : Meth X.K C m f) (F : FnOk X.prog X.w X.K X.mg X.base CX k f fd ps sp) (hr : Room k X.A) (hb : Binds X.K fd ps []) (hx : ∀ σ, PassesAt CX X σ (E σ)) (ha : PA X (e :: es) t)
    (hst : starEach (e :: es) X.env = (false, eval e X.env) :: starEach es X.env := by rfl) (hpl : (backTo pos (starEach es X.env)).any (·.1) = false := by rfl)
    (ht : eval (.Call (.Attribute o m apos) (e :: es) [] pos) X.env = (do
      let ov ← eval o X.env
      standAt apos.atName
      let (f, first) ← holding [ov] (getMethod ov m pl)
      callWith pos f first (backTo pos (starEach (e :: es) X.env)) (backToKw pos (keywordEach [] X.env))) := by rfl) :
    PE X (.Call (.Attribute o m apos) (e :: es) [] pos) (tMthS C m sp E ta t) := by
  refine ⟨fun pins s σ H Q I h => ?_⟩
  refine PySem.W.methodCall_KW (pl := pl) (thn (he.run pins s σ H _ I h) fun u s1 ⟨x, H1, I1, rx, a, dx, fs, ex, ea, l, q⟩ => ?_) ht
  subst ex
  obtain rfl : u = Value.ref a := rx
  refine getmeth_ok I1 ea c hm l ?_
  refine PySem.W.callWith_K (first := [.ref a]) (h₀ := X.base) I.ok.mod.kin hm.kp (thn (ha.run pos pins s1 σ H1 _ I1 q) fun us s2 ⟨vs, H2, I2, r, q2⟩ => ⟨I2.kIn, ?_⟩) hst hpl
  exact run_fnS (us := .ref a :: us) (vs := .ref a :: vs) F hr hb (hx σ) I2 (.cons rfl r) q2
theorem pe_mthS0 {pl : Sem Bool} (he : PE X o ta) (c : Cls X.K C) (hm : Meth X.K C m f) (F : FnOk X.prog X.w X.K X.mg X.base CX k f fd ps sp) (hr : Room k X.A) (hb : Binds X.K fd ps []) (hx : ∀ σ, PassesAt CX X σ (E σ))
    (ht : eval (.Call (.Attribute o m apos) [] [] pos) X.env = (do
      let ov ← eval o X.env
      standAt apos.atName
      let (f, first) ← holding [ov] (getMethod ov m pl)
      callWith pos f first (backTo pos (starEach [] X.env)) (backToKw pos (keywordEach [] X.env))) := by rfl) :
    PE X (.Call (.Attribute o m apos) [] [] pos) (tMthS C m sp E ta tNil) := by
  refine ⟨fun pins s σ H Q I h => ?_⟩
  refine PySem.W.methodCall_KW (pl := pl) (thn (he.run pins s σ H _ I h) fun u s1 ⟨x, H1, I1, rx, a, dx, fs, ex, ea, l, q⟩ => ?_) ht
  subst ex
  obtain rfl : u = Value.ref a := rx
  refine getmeth_ok I1 ea c hm l ?_
  exact PySem.W.callWith_K0 (first := [.ref a]) I1.kIn hm.kp (run_fnS (us := [.ref a]) (vs := [.ref a]) F hr hb (hx σ) I1 (.cons rfl .nil) q)
/-- a method that stands -/
def MtX (P : Program) (w : World) (K : PySem.W.Frag) (mg : Str → Option Value) (base : Heap) (k : Nat) (c m : Str) (sp : Sp) : Prop := ∃ f fd ps, FnOk P w K mg base (L2N.CX P w) k f fd ps sp ∧ Cls K (He.ga K c) ∧ Meth K (He.ga K c) m f ∧ Binds K fd ps []
def noKey (m : Str) (fs : List (Str × Fv)) : Bool := fs.all fun p => !decide (p.1 = m)
theorem noKey_ok {K : PySem.W.Frag} {F H : Hp} {m : Str} : ∀ {vs : List (Str × V)} {fs : List (Str × Fv)}, FsR K F H vs fs → noKey m fs = true → vs.lookup m = none
  | _, _, .nil, _ => rfl
  | _, _, .da (x := x) h t, k => by
    obtain ⟨k1, k2⟩ := He.ba (show (!decide (x = m) && noKey m _) = true from k)
    have e : (m == x) = false := by
      have k1 : ¬ x = m := fun z => by rw [decide_eq_true z] at k1; cases k1
      exact beq_eq_false_iff_ne.mpr fun z => k1 z.symm
    rw [List.lookup_cons, e]
    exact noKey_ok t k2
  | _, _, .li (x := x) h a t, k => by
    obtain ⟨k1, k2⟩ := He.ba (show (!decide (x = m) && noKey m _) = true from k)
    have e : (m == x) = false := by
      have k1 : ¬ x = m := fun z => by rw [decide_eq_true z] at k1; cases k1
      exact beq_eq_false_iff_ne.mpr fun z => k1 z.symm
    rw [List.lookup_cons, e]
    exact noKey_ok t k2
def eMth (c m : Str) (j n : Nat) (mm : En → RfE) (fa : M (List Vd)) : M Vd := fun env => match env[j]? with
  | some (.ob _ (.ins c' fs)) => if (decide (c' = c) && noKey m fs) = true then eG n mm none (some 0) none (some j) (aCons (eVar j) fa) env else .bad
  | _ => .bad
theorem SR.ins {K : PySem.W.Frag} {B : Bs} {F : Hp} {env : En} {σ : L2.St} {H : Hp} (S : SR K B F env σ H) {i : Nat} {b : Bool} {c : Str} {fs : List (Str × Fv)} (h : env[i]? = some (.ob b (.ins c fs))) :
    ∃ a dx vs, σ[i]? = some (some (.ref a)) ∧ H a = some (.ins (He.ga K c) dx vs) ∧ H dx = some (.own a) ∧ FsR K F H vs fs := by
  obtain ⟨v, g1, a, rfl, ⟨dx, vs, h1, h2, h3⟩, _⟩ := S.sl i _ h
  exact ⟨a, dx, vs, g1, h1, h2, h3⟩
theorem mth_in {K : PySem.W.Frag} {c : Str} {j : Nat} {mm : En → RfE} {C : Addr} {fx : TA} (hC : C = He.ga K c) {σ : L2.St} {H : Hp} {Q : VK} (h : tE K W (eMth c m j n mm fa) σ H Q) (hf : ∀ σ H Q, tA K W fa σ H Q → fx σ H Q) : tMthS C m (spG K n mm) (WE W) (tVar j) fx σ H Q := by
  subst hC
  obtain ⟨B, F, env, S, h⟩ := h
  unfold eMth at h
  split at h
  · rename_i b c' fs q
    split at h
    · rename_i z
      obtain ⟨z1, z2⟩ := He.ba z
      have z1 := of_decide_eq_true z1
      subst z1
      obtain ⟨a, dx, vs, g1, g2, g3, g4⟩ := S.ins q
      refine ⟨.ref a, g1, a, dx, vs, rfl, g2, noKey_ok g4 z2, ?_⟩
      have hv : eVar j env = .ok (.sl j) env := by unfold eVar; rw [q]
      have h1 := (show Rs ((aCons (eVar j) fa env).bnd fun xs e => gRun n mm none (some 0) none (some j) xs e) _ _ from h).bnd
      unfold aCons at h1
      rw [hv] at h1
      have h1 : Rs ((fa env).bnd fun xs e => R.ok (Vd.sl j :: xs) e) _ _ := h1
      refine hf _ _ _ (tA_in S .refl h1.bnd fun xs e1 vs1 H1 F1 l1 S1 r1 h2 => ?_)
      exact g_in S1 (VRs.cons (d := .sl j) g1 r1) (by decide) (by intro _ z; cases z) h2 (fun d e' v H' F' l' S' z p => p v H' F' (l1.trans l') S' z) fun c e' H' F' l' S' p => p H' F' (l1.trans l') S'
    · exact h.elim
  · exact h.elim
theorem je_mth {c : Str} {j : Nat} {mm : En → RfE} {y : Str} (F : MtX X.prog X.w X.K X.mg X.base k c m (spG X.K n mm)) (hr : Room k X.A) (tk : L2N.Takes X W) (hN : X.N[j]? = some y) (hv : Vis X.env.scope y) (ha : JA X W (e :: es) fa) {pl : Sem Bool}
    (hst : starEach (e :: es) X.env = (false, eval e X.env) :: starEach es X.env := by rfl) (hpl : (backTo pos (starEach es X.env)).any (·.1) = false := by rfl) (hd : (y == ("__debug__" : Str)) = false := by decide) (hcd : (y == ("__classdict__" : Str)) = false := by decide)
    (ht : eval (.Call (.Attribute (.Name y p) m apos) (e :: es) [] pos) X.env = (do
      let ov ← eval (.Name y p) X.env
      standAt apos.atName
      let (f, first) ← holding [ov] (getMethod ov m pl)
      callWith pos f first (backTo pos (starEach (e :: es) X.env)) (backToKw pos (keywordEach [] X.env))) := by rfl) :
    JE X W (.Call (.Attribute (.Name y p) m apos) (e :: es) [] pos) (eMth c m j n mm fa) := by
  obtain ⟨f, fd, ps, F, cl, hm, hb⟩ := F
  exact PE.imp (pe_mthS (pl := pl) (pe_var hN hv hd hcd) cl hm F hr hb (fun σ => L2N.passAt tk σ) ha hst hpl ht) fun σ H Q h => mth_in rfl h fun _ _ _ h => h
theorem je_mth0 {c : Str} {j : Nat} {mm : En → RfE} {y : Str} (F : MtX X.prog X.w X.K X.mg X.base k c m (spG X.K n mm)) (hr : Room k X.A) (tk : L2N.Takes X W) (hN : X.N[j]? = some y) (hv : Vis X.env.scope y) {pl : Sem Bool}
    (hd : (y == ("__debug__" : Str)) = false := by decide) (hcd : (y == ("__classdict__" : Str)) = false := by decide)
    (ht : eval (.Call (.Attribute (.Name y p) m apos) [] [] pos) X.env = (do
      let ov ← eval (.Name y p) X.env
      standAt apos.atName
      let (f, first) ← holding [ov] (getMethod ov m pl)
      callWith pos f first (backTo pos (starEach [] X.env)) (backToKw pos (keywordEach [] X.env))) := by rfl) :
    JE X W (.Call (.Attribute (.Name y p) m apos) [] [] pos) (eMth c m j n mm aNil) := by
  obtain ⟨f, fd, ps, F, cl, hm, hb⟩ := F
  refine PE.imp (pe_mthS0 (pl := pl) (pe_var hN hv hd hcd) cl hm F hr hb (fun σ => L2N.passAt tk σ) ht) fun σ H Q h => mth_in rfl h fun σ H Q h => ?_
  obtain ⟨B, F, env, S, h⟩ := h
  exact h [] H F .refl S .nil
end
/-! ### new instances -/
structure FrO (K : PySem.W.Frag) (B : Bs) (F : Hp) (e : En) (σ : L2.St) (H : Hp) (p : Addr) (o : Ob) : Prop where
  at_ : ObR K F H p o
  ft : ∀ x, Ft H p o x → F x = none ∧ B.H0 x = none ∧ NoFt e σ H x
def tM (K : PySem.W.Frag) (W : WX) (f : M Ob) : TE := fun σ H Q => ∃ B F env, SR K B F env σ H ∧ Rs (f env) (fun o e => ∀ p H' F', Le F F' → SR K B F' e σ H' → FrO K B F' e σ H' p o → Q (.ref p) H') (xW W K B F σ)
abbrev JM (X : Cx) (W : WX) (e : Expr) (f : M Ob) : Prop := PE X e (tM X.K W f)
theorem tM_in {K : PySem.W.Frag} {W : WX} {B : Bs} {F G : Hp} {env : En} {σ : L2.St} {H : Hp} {f : M Ob} {P : Ob → En → Prop} {Q : VK} (S : SR K B F env σ H) (l : Le G F) (h : Rs (f env) P (xW W K B G σ)) (k : ∀ o e p H' F', Le F F' → SR K B F' e σ H' → FrO K B F' e σ H' p o → P o e → Q (.ref p) H') : tM K W f σ H Q :=
  ⟨B, F, env, S, h.mono (fun vd e p v H' F' l' S' r => k vd e v H' F' l' S' r p) (fun c e q => xW.mono l q)⟩
theorem SR.setOb {K : PySem.W.Frag} {B : Bs} {F : Hp} {env : En} {σ : L2.St} {H : Hp} (S : SR K B F env σ H) {p : Addr} {o : Ob} (i : Nat) (f : FrO K B F env σ H p o) : SR K B F (env.set i (.ob false o)) (σ.set i (some (.ref p))) H :=
  S.put i S.same .refl S.fh S.new (by rw [List.length_set]) (fun j ne => List.getElem?_set_ne ne) (fun j s w x _ hj hv f => ⟨rfl, (S.foot hj hv f).2.1⟩)
    fun q => ⟨some (.ref p), by rw [List.getElem?_set_self (by rw [S.len]; exact q)], ⟨p, rfl, f.at_, fun x fx => ⟨(f.ft x fx).1, (f.ft x fx).2.1⟩, fun z => nomatch z⟩, fun x fx j s v _ hj hv => by
      obtain ⟨a, e, fx⟩ := fx
      cases e
      exact (f.ft x fx).2.2 j s v hj hv⟩
def sMk (i : Nat) (f : M Ob) : En → O := fun env => (f env).o fun o e => .nx (e.set i (.ob false o))
section
variable {X : Cx} {W : WX} {x m : Str} {p pos apos : Pos} {a e o : Expr} {es : List Expr} {fa : M (List Vd)} {k n : Nat} {f C : Addr} {fd : FuncData} {ps : List Str} {sp : Sp} {CX : CXT} {E : L2.St → XK} {ta : TE} {t : TA}
theorem js_mk {i : Nat} {x : Str} {pos' : Pos} {f : M Ob} (hN : X.N.Nodup) (hi : X.N[i]? = some x) (hx : Loc X.env.scope x) (ha : JM X W a f) (hs : swapsWith a (some (.Name x pos')) pos.line X.env = pure false := by rfl) (hf : X.fn x = true ∨ X.env.scope.names.lookup x = some .local := by first | exact .inl rfl | exact .inr rfl | assumption) :
    JS X W (.Assign [.Name x pos'] a pos) (sMk i f) := by
  refine PS.imp (ps_set hN hi hx ha hs hf) fun D σ H h => ?_
  obtain ⟨B, F, env, S, h⟩ := h
  refine tM_in S .refl (Os.r h) fun o e1 p H1 F1 l1 S1 fr h1 => ?_
  exact h1 _ H1 F1 l1 (S1.setOb i fr)
/-- an expression that must not come to its value -/
def eBadM (f : M Ob) : M Vd := fun env => (f env).bnd fun _ _ => .bad
theorem je_badM {f : M Ob} (ha : JM X W a f) : JE X W a (eBadM f) := by
  refine PE.imp ha fun σ H Q h => ?_
  obtain ⟨B, F, env, S, h⟩ := h
  exact tM_in S .refl h.bnd fun o e p H' F' l' S' fr h1 => h1.elim
/-! C(..) -/
def tMakeS (C : Addr) (sp : Sp) (E : L2.St → XK) (t : TA) : TE := fun σ H Q => t σ H fun vs H1 => ∀ x dx, H1 x = none → H1 dx = none → dx ≠ x →
  sp (.ref x :: vs) (upd (upd H1 dx (.own x)) x (.ins C dx [])) (fun v H2 => v = .non ∧ Q (.ref x) H2) (E σ)
theorem pe_makeS (M : Mk X.K C f) (F : FnOk X.prog X.w X.K X.mg X.base CX k f fd ps sp) (hr : Room (k + 1) X.A) (hg : Gl X x) (hm : X.mg x = some (.ref C)) (hb : Binds X.K fd ps []) (hx : ∀ σ, PassesAt CX X σ (E σ))
    (ha : PA X (e :: es) t) (hdb : (x == ("__debug__" : Str)) = false := by decide) (he : starEach (e :: es) X.env = (false, eval e X.env) :: starEach es X.env := by rfl) (hpl : (backTo pos (starEach es X.env)).any (·.1) = false := by rfl) :
    PE X (.Call (.Name x p) (e :: es) [] pos) (tMakeS C sp E t) := by
  refine ⟨fun pins s σ H Q I h => ?_⟩
  refine wpAny_Call_Name_kw (ld_glob I hg hm ?_ hdb)
  refine PySem.W.callWith_K (h₀ := X.base) I.ok.mod.kin M.kp (thn (ha.run pos pins s σ H _ I h) fun us s1 ⟨vs, H1, I1, r, q⟩ => ⟨I1.kIn, ?_⟩) he hpl
  have hq := q (s1.heap.objs.size + 1) s1.heap.objs.size (I1.hok.fresh (Nat.le_succ _)) (I1.hok.fresh (Nat.le_refl _)) (Nat.ne_of_lt (Nat.lt_succ_self _))
  have I2 := Inv.made (C := C) I1
  have r2 : Vals (V.ref (s1.heap.objs.size + 1) :: vs) (Value.ref (s1.heap.objs.size + 1) :: us) := .cons rfl r
  have hl : (Value.ref (s1.heap.objs.size + 1) :: us).length = ps.length := by rw [← r2.length]; exact F.len _ _ _ _ hq
  have b := hb { s1 with heap := (s1.heap.push PySem.W.emptyDict).push (PySem.W.instObj C s1.heap.objs.size) } (Value.ref (s1.heap.objs.size + 1) :: us) I2.kIn (by rw [List.append_nil]; exact hl)
  rw [List.append_nil] at b
  refine wpAny_call (make_map (f := f) I1.kIn M.makes M.init (beq_iff_eq.mp M.fn) (codeAny_mono (F.run _ X.stack _ _ ⟨Value.ref (s1.heap.objs.size + 1) :: us, []⟩ (Value.ref (s1.heap.objs.size + 1) :: us) _ _ (E σ) (hr.make C us [])
    (I2.env0.make C us []) b r2 hq) fun r s' hq' => ?_))
  cases r with
  | error e => exact hx σ pins _ _ e s' I2 hq'
  | ok fl =>
    cases fl with
    | ret u =>
      obtain ⟨v, H', I3, rv, ev, q3⟩ := I2.after hq'
      subst ev
      exact ⟨rv, ⟨V.ref (s1.heap.objs.size + 1), H', I3, rfl, q3⟩⟩
    | next => exact False.elim hq'
    | brk => exact False.elim hq'
    | cont => exact False.elim hq'
/-- a class that can be made -/
def MkX (P : Program) (w : World) (K : PySem.W.Frag) (mg : Str → Option Value) (base : Heap) (k : Nat) (c : Str) (sp : Sp) : Prop := ∃ f fd ps, FnOk P w K mg base (L2N.CX P w) k f fd ps sp ∧ Mk K (He.ga K c) f ∧ mg c = some (.ref (He.ga K c)) ∧ Binds K fd ps []
def mMake (c : Str) (n : Nat) (mm : En → RfE) (fa : M (List Vd)) : M Ob := fun env => (fa env).bnd fun xs e => match hands e none none none none 1 xs with
  | some hs => if hs.length + 1 = n then (match mm (.ob true (.ins c []) :: hs) with
    | .ok .none _ (some o) => .ok o e
    | .exc c _ _ => .exc c e
    | _ => .bad) else .bad
  | none => .bad
theorem hands_plain {K : PySem.W.Frag} {B : Bs} {F : Hp} {e : En} {σ : L2.St} {H : Hp} {j : Nat} {xs : List Vd} {vs : List V} {hs : En} (S : SR K B F e σ H) (r : VRs K F σ vs xs) (q : hands e none none none none j xs = some hs) :
    hs.length = vs.length ∧ ∀ (i : Nat) (s : Sl), hs[i]? = some s → ∃ v, vs[i]? = some v ∧ (∀ B' H', SlR K F H' B' s (some v)) ∧ ∀ H' x, ¬ Foot H' s (some v) x := by
  obtain ⟨hl, hg⟩ := hands_get q
  refine ⟨by rw [hl, r.len], fun i s h => ?_⟩
  obtain ⟨x, x1, x2⟩ := hg i s h
  obtain ⟨v, v1, v2⟩ := r.get x1
  refine ⟨v, v1, ?_⟩
  unfold hand1 at x2
  rw [if_neg (fun z => nomatch z), if_neg (fun z => nomatch z)] at x2
  cases x with
  | dat d =>
    cases x2
    exact ⟨fun B' H' => ⟨v, rfl, v2⟩, fun _ _ f => f⟩
  | sl j =>
    simp only at x2
    have v2 : σ[j]? = some (some v) := v2
    split at x2
    · rename_i d qj
      cases x2
      obtain ⟨w, g1, y, rfl, g2⟩ := S.sl j _ qj
      rw [v2] at g1
      cases g1
      exact ⟨fun B' H' => ⟨v, rfl, g2⟩, fun _ _ f => f⟩
    · rename_i ns qj
      cases x2
      obtain ⟨w, g1, a, rfl, g2⟩ := S.sl j _ qj
      rw [v2] at g1
      cases g1
      exact ⟨fun B' H' => ⟨a, rfl, g2⟩, fun _ _ f => f⟩
    · cases x2
theorem jm_make {mm : En → RfE} (F : MkX X.prog X.w X.K X.mg X.base k x (spG X.K n mm)) (hr : Room (k + 1) X.A) (hg : Gl X x) (tk : L2N.Takes X W) (ha : JA X W (e :: es) fa) (hdb : (x == ("__debug__" : Str)) = false := by decide)
    (he : starEach (e :: es) X.env = (false, eval e X.env) :: starEach es X.env := by rfl) (hpl : (backTo pos (starEach es X.env)).any (·.1) = false := by rfl) : JM X W (.Call (.Name x p) (e :: es) [] pos) (mMake x n mm fa) := by
  obtain ⟨f, fd, ps, F, mk, hm, hb⟩ := F
  refine PE.imp (pe_makeS mk F hr hg hm hb (fun σ => L2N.passAt tk σ) ha hdb he hpl) fun σ H Q h => ?_
  obtain ⟨B, F, env, S, h⟩ := h
  refine tA_in S .refl h.bnd fun xs e1 vs H1 F1 l1 S1 r1 h1 => ?_
  intro y dx ny ndx ne
  cases q : hands e1 none none none none 1 xs with
  | none => rw [q] at h1; exact h1.elim
  | some hs =>
    rw [q] at h1
    simp only at h1
    split at h1
    · rename_i hn
      obtain ⟨hl, hp⟩ := hands_plain S1 r1 q
      have eH : ∀ b o, H1 b = some o → (upd (upd H1 dx (.own y)) y (.ins (He.ga X.K x) dx [])) b = some o := fun b o hb => by
        rw [upd_ne (ne_of_none hb ny), upd_ne (ne_of_none hb ndx)]; exact hb
      have hy : (upd (upd H1 dx (.own y)) y (.ins (He.ga X.K x) dx [])) y = some (.ins (He.ga X.K x) dx []) := upd_same
      have hd : (upd (upd H1 dx (.own y)) y (.ins (He.ga X.K x) dx [])) dx = some (.own y) := by rw [upd_ne ne, upd_same]
      have S2 : SR X.K ⟨H1, F1, 0, y⟩ F1 (.ob true (.ins x []) :: hs) ((V.ref y :: vs).map some) (upd (upd H1 dx (.own y)) y (.ins (He.ga X.K x) dx [])) := by
        refine ⟨by simp [hl], eH, .refl, S1.fh.trans eH, fun b o h => .inl h, fun i s hs' => ?_, fun i j s t v w z nij h1 h2 h3 h4 f1 f2 => ?_⟩
        · cases i with
          | zero =>
            cases hs'
            refine ⟨_, rfl, y, rfl, ⟨dx, [], hy, hd, .nil⟩, fun z f => ?_, fun _ => rfl⟩
            have zz : z = y ∨ z = dx := by
              rcases f with rfl | ⟨C', dx', vs', e1, e2⟩
              · exact .inl rfl
              · rw [hy] at e1
                cases e1
                rcases e2 with rfl | e2
                · exact .inr rfl
                · cases e2
            rcases zz with rfl | rfl
            · exact ⟨S1.fh.none ny, ny⟩
            · exact ⟨S1.fh.none ndx, ndx⟩
          | succ i =>
            obtain ⟨v, v1, v2, _⟩ := hp i s hs'
            exact ⟨some v, by simpa using v1, v2 _ _⟩
        · cases i with
          | zero =>
            cases j with
            | zero => exact nij rfl
            | succ j =>
              obtain ⟨v', v1, _, v3⟩ := hp j t h2
              have h4 : (vs.map some)[j]? = some w := by simpa using h4
              rw [List.getElem?_map, v1] at h4
              cases h4
              exact v3 _ _ f2
          | succ i =>
            obtain ⟨v', v1, _, v3⟩ := hp i s h1
            have h3 : (vs.map some)[i]? = some v := by simpa using h3
            rw [List.getElem?_map, v1] at h3
            cases h3
            exact v3 _ _ f1
      refine ⟨by simp; omega, _, F1, _, S2, ?_⟩
      split at h1
      · rename_i t o q2
        rw [q2]
        intro v H' F' l' fn zd
        have hv : v = .non := by cases zd; rfl
        obtain ⟨k1, k2⟩ := fn.us o rfl
        have S3 : SR X.K B F' e1 σ H' := S1.grow l' fn.same fn.fh fn.new
        refine ⟨hv, h1 y H' F' (l1.trans l') S3 ⟨k1, fun z f => ⟨(k2 z f).1, S1.same.none (k2 z f).2, ?_⟩⟩⟩
        exact S1.noFtLe fn.same (S1.noFt (k2 z f).2)
      · rename_i c t u q2
        rw [q2]
        intro H' F' l' fn
        exact h1 H' F' (l1.trans l') (S1.grow l' fn.same fn.fh fn.new)
      · exact h1.elim
    · exact h1.elim
end
end Pf
namespace Pf
open PySem PySem.Spec PyProof.Rows L2
/-! ### attributes -/
def fvD : Fv → D
  | .da d => d
  | .li ds => .list ds
def fldD (e : En) (i : Nat) (c x : Str) : Option Fv := match e[i]? with
  | some (.ob _ (.ins c' fs)) => if decide (c' = c) = true then fs.lookup x else none
  | _ => none
theorem lisA_da {x y : Str} {v : V} {d : D} {vs : List (Str × V)} {fs : List (Str × Fv)} : lisA ((x, v) :: vs) ((y, .da d) :: fs) = lisA vs fs := by cases v <;> rfl
theorem FsR.look {K : PySem.W.Frag} {F H : Hp} (l : Le F H) {x : Str} {fv : Fv} : ∀ {vs : List (Str × V)} {fs : List (Str × Fv)}, FsR K F H vs fs → fs.lookup x = some fv →
    ∃ v, vs.lookup x = some v ∧ Tp K F H v (fvD fv) ∧ (∀ d, fv = .da d → Dq K F v d) ∧ ∀ ds, fv = .li ds → ∃ a ws, v = .ref a ∧ H a = some (.lst ws) ∧ DqAll K F ws ds ∧ a ∈ lisA vs fs
  | _, _, .nil, h => by cases h
  | _, _, .da (x := y) (v := v) (d := d) g t, h => by
    rw [List.lookup_cons] at h ⊢
    cases q : x == y with
    | true =>
      rw [q] at h
      cases h
      exact ⟨v, rfl, .of l g, (fun d e => by cases e; exact g), (fun ds e => by cases e)⟩
    | false =>
      rw [q] at h
      obtain ⟨v, k1, k2, k3, k4⟩ := FsR.look l t h
      refine ⟨v, k1, k2, k3, fun ds e => ?_⟩
      obtain ⟨a, ws, h1, h2, h3, h4⟩ := k4 ds e
      exact ⟨a, ws, h1, h2, h3, by rw [lisA_da]; exact h4⟩
  | _, _, .li (x := y) (l := a) (ws := ws) (ds := ds) g g2 t, h => by
    rw [List.lookup_cons] at h ⊢
    cases q : x == y with
    | true =>
      rw [q] at h
      cases h
      exact ⟨.ref a, rfl, .lst g g2, (fun d e => by cases e), (fun ds e => by cases e; exact ⟨a, ws, rfl, g, g2, List.mem_cons_self⟩)⟩
    | false =>
      rw [q] at h
      obtain ⟨v, k1, k2, k3, k4⟩ := FsR.look l t h
      refine ⟨v, k1, k2, k3, fun ds e => ?_⟩
      obtain ⟨a, ws, h1, h2, h3, h4⟩ := k4 ds e
      exact ⟨a, ws, h1, h2, h3, List.mem_cons_of_mem _ h4⟩
/-- what the walk knows of a class's attributes -/
structure FldX (K : PySem.W.Frag) (c x : Str) : Prop where
  cls : Cls K (He.ga K c)
  no : NoAttr K (He.ga K c) x
theorem fld_at {e : En} {i : Nat} {c x : Str} {fv : Fv} (h : fldD e i c x = some fv) : ∃ b fs, e[i]? = some (.ob b (.ins c fs)) ∧ fs.lookup x = some fv := by
  unfold fldD at h
  split at h
  · rename_i b c' fs q
    split at h
    · rename_i z
      have z := of_decide_eq_true z
      subst z
      exact ⟨b, fs, q, h⟩
    · cases h
  · cases h
theorem fld_in {K : PySem.W.Frag} {B : Bs} {F : Hp} {env : En} {σ : L2.St} {H : Hp} {i : Nat} {c x : Str} {fv : Fv} (S : SR K B F env σ H) (fx : FldX K c x) (q : fldD env i c x = some fv) {Q : VK}
    (k : ∀ v, Tp K F H v (fvD fv) → (∀ d, fv = .da d → Dq K F v d) → (∀ ds, fv = .li ds → ∃ a ws, v = .ref a ∧ H a = some (.lst ws) ∧ DqAll K F ws ds) → Q v H) : tFld K (tVar i) x σ H Q := by
  obtain ⟨b, fs, q1, q2⟩ := fld_at q
  obtain ⟨a, dx, vs, g1, g2, g3, g4⟩ := S.ins q1
  obtain ⟨v, k1, k2, k3, k4⟩ := g4.look S.fh q2
  exact ⟨.ref a, g1, a, _, dx, vs, v, rfl, g2, fx.cls, fx.no, k1, k v k2 k3 fun ds e => let ⟨l, ws, h1, h2, h3, _⟩ := k4 ds e; ⟨l, ws, h1, h2, h3⟩⟩
def eFld (i : Nat) (c x : Str) : M Vd := fun e => match fldD e i c x with
  | some (.da d) => .ok (.dat d) e
  | _ => .bad
def eFldIx (i : Nat) (c x : Str) (k : Int) : M Vd := fun e => match fldD e i c x with
  | some fv => (match gIx (fvD fv) (.int k) with
    | some d => .ok (.dat d) e
    | none => .bad)
  | none => .bad
def eFldLen (i : Nat) (c x : Str) : M Vd := fun e => match fldD e i c x with
  | some (.li ds) => .ok (.dat (.int ds.length)) e
  | _ => .bad
def nFldCut (i : Nat) (c x : Str) (lo hi : Option Int) : M (List D) := fun e => match fldD e i c x with
  | some (.li ds) => .ok (cutD ds lo hi) e
  | _ => .bad
def nFldList (i : Nat) (c x : Str) : M (List D) := fun e => match fldD e i c x with
  | some (.li ds) => .ok ds e
  | _ => .bad
section
variable {X : Cx} {W : WX} {c x y : Str} {p pos apos : Pos} {a b e : Expr} {i : Nat}
theorem pe_fldV (hN : X.N[i]? = some y) (hv : Vis X.env.scope y) (hb : attributeBase (.Name y p) x X.env (eval (.Name y p) X.env) = eval (.Name y p) X.env) (hd : (y == ("__debug__" : Str)) = false) (hcd : (y == ("__classdict__" : Str)) = false) : PE X (.Attribute (.Name y p) x apos) (tFld X.K (tVar i) x) :=
  pe_fld (pe_var hN hv hd hcd) hb
theorem je_fld (fx : FldX X.K c x) (hN : X.N[i]? = some y) (hv : Vis X.env.scope y) (hb : attributeBase (.Name y p) x X.env (eval (.Name y p) X.env) = eval (.Name y p) X.env := by rfl) (hd : (y == ("__debug__" : Str)) = false := by decide) (hcd : (y == ("__classdict__" : Str)) = false := by decide) : JE X W (.Attribute (.Name y p) x apos) (eFld i c x) := by
  refine PE.imp (pe_fldV hN hv hb hd hcd) fun σ H Q h => ?_
  obtain ⟨B, F, env, S, h⟩ := h
  unfold eFld at h
  split at h
  · rename_i d q
    exact fld_in S fx q fun v k1 k2 k3 => h v H F .refl S (k2 d rfl)
  · exact h.elim
theorem je_fldIx {k : Int} (fx : FldX X.K c x) (hN : X.N[i]? = some y) (hv : Vis X.env.scope y) (hk : PE X b (tC (.int k))) (hs : PlainIx b := by exact fun _ _ => rfl) (hb : attributeBase (.Name y p) x X.env (eval (.Name y p) X.env) = eval (.Name y p) X.env := by rfl) (hd : (y == ("__debug__" : Str)) = false := by decide) (hcd : (y == ("__classdict__" : Str)) = false := by decide) :
    JE X W (.Subscript (.Attribute (.Name y p) x apos) b pos) (eFldIx i c x k) := by
  refine PE.imp (pe_ix ix_seq (pe_fldV hN hv hb hd hcd) hk hs) fun σ H Q h => ?_
  obtain ⟨B, F, env, S, h⟩ := h
  unfold eFldIx at h
  split at h
  · rename_i fv q
    split at h
    · rename_i d q2
      refine fld_in S fx q fun v k1 k2 k3 => ?_
      exact d_ix F H v (.int k) (fvD fv) (.int k) d S.fh k1 (.int k) q2 Q fun v' H' res =>
        let ⟨F', l', S', z⟩ := res.fin S
        h v' H' F' l' S' z
    · exact h.elim
  · exact h.elim
theorem pe_neg1 {k : Nat} {p1 p2 : Pos} {n : Int} : PE X (.UnaryOp .USub (.Constant (.int n) k p1) p2) (tC (.int (-n))) := PE.imp (pe_un un_neg pe_int) fun σ H Q h => ⟨n, rfl, h⟩
theorem je_fldLen {p2 : Pos} (fx : FldX X.K c x) (hN : X.N[i]? = some y) (hv : Vis X.env.scope y) (hg : Gl X "len") (hm : X.mg "len" = none) (hb : attributeBase (.Name y p) x X.env (eval (.Name y p) X.env) = eval (.Name y p) X.env := by rfl) (hd : (y == ("__debug__" : Str)) = false := by decide) (hcd : (y == ("__classdict__" : Str)) = false := by decide)
    (he : starEach [.Attribute (.Name y p) x apos] X.env = (false, eval (.Attribute (.Name y p) x apos) X.env) :: starEach [] X.env := by rfl) (hpl : (backTo pos (starEach [] X.env)).any (·.1) = false := by rfl) : JE X W (.Call (.Name "len" p2) [.Attribute (.Name y p) x apos] [] pos) (eFldLen i c x) := by
  refine PE.imp (pe_callB c_len hg hm boot_len (pa_cons (pe_fldV hN hv hb hd hcd) pa_nil he) (by decide) (by decide) he hpl) fun σ H Q h => ?_
  obtain ⟨B, F, env, S, h⟩ := h
  unfold eFldLen at h
  split at h
  · rename_i ds q
    refine fld_in S fx q fun v k1 k2 k3 => ?_
    refine d_len F H [v] [.list ds] (.int ds.length) S.fh (.cons k1 .nil) rfl Q fun v' H' res => ?_
    obtain ⟨F', l', S', z⟩ := res.fin S
    exact h v' H' F' l' S' z
  · exact h.elim
theorem jn_fldList {p2 : Pos} (fx : FldX X.K c x) (hN : X.N[i]? = some y) (hv : Vis X.env.scope y) (hg : Gl X "list") (hm : X.mg "list" = none) (hb : attributeBase (.Name y p) x X.env (eval (.Name y p) X.env) = eval (.Name y p) X.env := by rfl) (hd : (y == ("__debug__" : Str)) = false := by decide) (hcd : (y == ("__classdict__" : Str)) = false := by decide)
    (he : starEach [.Attribute (.Name y p) x apos] X.env = (false, eval (.Attribute (.Name y p) x apos) X.env) :: starEach [] X.env := by rfl) (hpl : (backTo pos (starEach [] X.env)).any (·.1) = false := by rfl) : JN X W (.Call (.Name "list" p2) [.Attribute (.Name y p) x apos] [] pos) (nFldList i c x) := by
  refine PE.imp (pe_callTy call_list_of hg hm PyProof.Rows.boot_list (pa_cons (pe_fldV hN hv hb hd hcd) pa_nil he) (by decide) (by decide) he hpl) fun σ H Q h => ?_
  obtain ⟨B, F, env, S, h⟩ := h
  unfold nFldList at h
  split at h
  · rename_i ds q
    refine fld_in S fx q fun v k1 k2 k3 => ?_
    obtain ⟨a, ws, rfl, h1, h2⟩ := k3 ds rfl
    refine ⟨a, ws, rfl, .inl (SqL.of h1), fun r n => ?_⟩
    obtain ⟨S3, fr⟩ := S.fresh n h2
    exact h r _ F .refl S3 fr
  · exact h.elim
theorem jn_fldCut {lo hi : Option Expr} {ol oh : Option Int} {p2 : Pos} (fx : FldX X.K c x) (hN : X.N[i]? = some y) (hv : Vis X.env.scope y) (hl : PO X lo (fun _ H Q => Q ol H)) (hh : PO X hi (fun _ H Q => Q oh H)) (hb : attributeBase (.Name y p) x X.env (eval (.Name y p) X.env) = eval (.Name y p) X.env := by rfl) (hd : (y == ("__debug__" : Str)) = false := by decide) (hcd : (y == ("__classdict__" : Str)) = false := by decide) :
    JN X W (.Subscript (.Attribute (.Name y p) x apos) (.Slice lo hi none p2) pos) (nFldCut i c x ol oh) := by
  refine PE.imp (pe_slice sl_list (pe_fldV hN hv hb hd hcd) hl hh) fun σ H Q h => ?_
  obtain ⟨B, F, env, S, h⟩ := h
  unfold nFldCut at h
  split at h
  · rename_i ds q
    refine fld_in S fx q fun v k1 k2 k3 => ?_
    obtain ⟨a, ws, rfl, h1, h2⟩ := k3 ds rfl
    refine ⟨a, ws, rfl, SqL.of h1, fun r n => ?_⟩
    obtain ⟨S3, fr⟩ := S.fresh n (dqAll_cut h2 ol oh)
    exact h r _ F .refl S3 fr
  · exact h.elim
theorem po_int {n : Int} (h : PE X a (tC (.int n))) : PO X (some a) (fun _ H Q => Q (some n) H) := PO.imp (po_some h) fun σ H Q h => ⟨n, rfl, h⟩
theorem po_no : PO X none (fun _ H Q => Q none H) := PO.imp po_none fun σ H Q h => h
end
/-! ### setting attributes -/
def putFv (x : Str) (fv : Fv) : List (Str × Fv) → List (Str × Fv)
  | [] => [(x, fv)]
  | (k, y) :: r => if k = x then (k, fv) :: r else (k, y) :: putFv x fv r
theorem FsR.len {K : PySem.W.Frag} {F H : Hp} : ∀ {vs : List (Str × V)} {fs : List (Str × Fv)}, FsR K F H vs fs → vs.length = fs.length
  | _, _, .nil => rfl
  | _, _, .da _ t => by simp [t.len]
  | _, _, .li _ _ t => by simp [t.len]
theorem lisA_sub {x y : Str} {v : V} {fv : Fv} {vs : List (Str × V)} {fs : List (Str × Fv)} {z : Addr} (h : z ∈ lisA vs fs) : z ∈ lisA ((x, v) :: vs) ((y, fv) :: fs) := by
  cases fv with
  | da d => rw [lisA_da]; exact h
  | li ds => cases v <;> first | exact List.mem_cons_of_mem _ h | exact h
/-- an attribute's value: data, or a list at its address -/
inductive FvR (K : PySem.W.Frag) (F H : Hp) : V → Fv → Prop
  | da {v : V} {d : D} : Dq K F v d → FvR K F H v (.da d)
  | li {l : Addr} {ws : List V} {ds : List D} : H l = some (.lst ws) → DqAll K F ws ds → FvR K F H (.ref l) (.li ds)
theorem FsR.cons {K : PySem.W.Frag} {F H : Hp} {x : Str} {v : V} {fv : Fv} {vs : List (Str × V)} {fs : List (Str × Fv)} (h : FvR K F H v fv) (t : FsR K F H vs fs) : FsR K F H ((x, v) :: vs) ((x, fv) :: fs) := by
  cases h with
  | da h => exact .da h t
  | li h a => exact .li h a t
theorem lisA_mem {x y : Str} {v : V} {fv : Fv} {vs : List (Str × V)} {fs : List (Str × Fv)} {z : Addr} (h : z ∈ lisA ((x, v) :: vs) ((y, fv) :: fs)) : (v = .ref z ∧ ∃ ds, fv = .li ds) ∨ z ∈ lisA vs fs := by
  cases fv with
  | da d => rw [lisA_da] at h; exact .inr h
  | li ds =>
    cases v with
    | ref l =>
      rcases List.mem_cons.mp h with rfl | h
      · exact .inl ⟨rfl, ds, rfl⟩
      · exact .inr h
    | _ => exact .inr h
theorem FsR.put {K : PySem.W.Frag} {F H : Hp} {x : Str} {v : V} {fv : Fv} (h : FvR K F H v fv) : ∀ {vs : List (Str × V)} {fs : List (Str × Fv)}, FsR K F H vs fs →
    FsR K F H (putF x v vs) (putFv x fv fs) ∧ ∀ z ∈ lisA (putF x v vs) (putFv x fv fs), z ∈ lisA vs fs ∨ (v = .ref z ∧ ∃ ds, fv = .li ds)
  | _, _, .nil => ⟨FsR.cons h .nil, fun z hz => by
    rcases lisA_mem hz with q | q
    · exact .inr q
    · cases q⟩
  | _, _, .da (x := y) (v := w) (d := d) g t => by
    obtain ⟨i1, i2⟩ := FsR.put h t
    show FsR K F H (if y = x then _ else _) (if y = x then _ else _) ∧ ∀ z ∈ lisA (if y = x then _ else _) (if y = x then _ else _), _
    by_cases q : y = x
    · rw [if_pos q, if_pos q]
      refine ⟨FsR.cons h t, fun z hz => ?_⟩
      rcases lisA_mem hz with r | r
      · exact .inr r
      · exact .inl (by rw [lisA_da]; exact r)
    · rw [if_neg q, if_neg q]
      refine ⟨.da g i1, fun z hz => ?_⟩
      rw [lisA_da] at hz ⊢
      exact i2 z hz
  | _, _, .li (x := y) (l := a) (ds := ds) g g2 t => by
    obtain ⟨i1, i2⟩ := FsR.put h t
    show FsR K F H (if y = x then _ else _) (if y = x then _ else _) ∧ ∀ z ∈ lisA (if y = x then _ else _) (if y = x then _ else _), _
    by_cases q : y = x
    · rw [if_pos q, if_pos q]
      refine ⟨FsR.cons h t, fun z hz => ?_⟩
      rcases lisA_mem hz with r | r
      · exact .inr r
      · exact .inl (List.mem_cons_of_mem _ r)
    · rw [if_neg q, if_neg q]
      refine ⟨.li g g2 i1, fun z hz => ?_⟩
      rcases List.mem_cons.mp hz with rfl | hz
      · exact .inl List.mem_cons_self
      · rcases i2 z hz with r | r
        · exact .inl (List.mem_cons_of_mem _ r)
        · exact .inr r
section
variable {K : PySem.W.Frag} {B : Bs} {F : Hp} {env : En} {σ : L2.St} {H : Hp}
/-- the attributes of the instance of a slot change -/
theorem SR.insPut (S : SR K B F env σ H) {i : Nat} {b : Bool} {c : Str} {fs fs' : List (Str × Fv)} {a dx : Addr} {vs vs' : List (Str × V)} (hi : env[i]? = some (.ob b (.ins c fs))) (hv : σ[i]? = some (some (.ref a))) (hH : H a = some (.ins (He.ga K c) dx vs)) (r : FsR K F H vs' fs')
    (fr : ∀ x ∈ lisA vs' fs', x ∈ lisA vs fs ∨ (F x = none ∧ B.H0 x = none ∧ NoFt env σ H x)) : SR K B F (env.set i (.ob b (.ins c fs'))) σ (upd H a (.ins (He.ga K c) dx vs')) := by
  obtain ⟨v, g1, a', e, ⟨dx', vs0, k1, k2, k3⟩, k4, k5⟩ := S.sl i _ hi
  rw [hv] at g1
  cases g1
  cases e
  rw [hH] at k1
  cases k1
  have fa := k4 a (.inl rfl)
  have fd := k4 dx (.inr ⟨_, dx, vs, hH, .inl rfl⟩)
  have fl : ∀ x ∈ lisA vs fs, F x = none ∧ B.H0 x = none := fun x hx => k4 x (.inr ⟨_, dx, vs, hH, .inr hx⟩)
  have no : ∀ (j : Nat) (s : Sl) (v : Option V) (x : Addr), i ≠ j → env[j]? = some s → σ[j]? = some v → Foot H s v x → ¬ Ft H a (.ins c fs) x := fun j s v x ne hj hw f f' =>
    S.own i j _ s _ v x ne hi hj hv hw ⟨a, rfl, f'⟩ f
  have dna : dx ≠ a := fun z => by subst z; rw [hH] at k2; cases k2
  have lna : ∀ x ∈ lisA vs' fs', x ≠ a := fun x hx z => by
    subst z
    obtain ⟨ws, e⟩ := lisA_at r x hx
    rw [hH] at e
    cases e
  have hn : (upd H a (.ins (He.ga K c) dx vs')) a = some (.ins (He.ga K c) dx vs') := upd_same
  have feet : ∀ x, Ft (upd H a (.ins (He.ga K c) dx vs')) a (.ins c fs') x → Ft H a (.ins c fs) x ∨ (F x = none ∧ B.H0 x = none ∧ NoFt env σ H x) := fun x f => by
    rcases f with rfl | ⟨C', dx', vs1, e1, e2⟩
    · exact .inl (.inl rfl)
    · rw [hn] at e1
      cases e1
      rcases e2 with rfl | e2
      · exact .inl (.inr ⟨_, _, vs, hH, .inl rfl⟩)
      · rcases fr x e2 with z | z
        · exact .inl (.inr ⟨_, _, vs, hH, .inr z⟩)
        · exact .inr z
  refine S.put i (fun b o e => ?_) .refl (S.fh.updr fa.1) S.new rfl (fun _ _ => rfl) (fun j s v x ne hj hw f => ⟨upd_ne fun z => ?_, (S.foot hj hw f).2.1⟩) fun _ => ⟨_, hv, ⟨a, rfl, ⟨dx, vs', hn, by rw [upd_ne dna]; exact k2, r.mono .refl fun x hx => upd_ne (lna x hx)⟩, fun x f => ?_, k5⟩, fun x f j s v ne hj hw f' => ?_⟩
  · rw [upd_ne (ne_of_none e fa.2)]; exact S.same b o e
  · subst z; exact no j s v _ ne hj hw f (.inl rfl)
  · rcases feet x f with z | z
    · exact k4 x z
    · exact ⟨z.1, z.2.1⟩
  · obtain ⟨a', e, f⟩ := f
    cases e
    rcases feet x f with z | z
    · exact no j s v x ne hj hw f' z
    · exact z.2.2 j s v hj hw f'
end
def setFld (i : Nat) (c x : Str) (fv : Fv) (e : En) : Option En := match e[i]? with
  | some (.ob b (.ins c' fs)) => if (decide (c' = c) && Nat.blt fs.length 100) = true then some (e.set i (.ob b (.ins c (putFv x fv fs)))) else none
  | _ => none
def sFldSet (i : Nat) (c x : Str) (f : M Vd) : En → O := fun env => (f env).o fun v e => (fz v e).o fun d e => match setFld i c x (.da d) e with
  | some e' => .nx e'
  | none => .bad
def sFldOwn (i : Nat) (c x : Str) (f : M (List D)) : En → O := fun env => (f env).o fun ds e => match setFld i c x (.li ds) e with
  | some e' => .nx e'
  | none => .bad
theorem setFld_at {i : Nat} {c x : Str} {fv : Fv} {e e' : En} (h : setFld i c x fv e = some e') : ∃ b fs, e[i]? = some (.ob b (.ins c fs)) ∧ fs.length < 100 ∧ e' = e.set i (.ob b (.ins c (putFv x fv fs))) := by
  unfold setFld at h
  split at h
  · rename_i b c' fs q
    split at h
    · rename_i z
      obtain ⟨z1, z2⟩ := He.ba z
      have z1 := of_decide_eq_true z1
      subst z1
      cases h
      exact ⟨b, fs, q, Nat.blt_eq.mp z2, rfl⟩
    · cases h
  · cases h
section
variable {X : Cx} {W : WX} {c x y : Str} {p pos apos : Pos} {a b e : Expr} {i : Nat}
theorem js_fldSet {f : M Vd} (fx : FldX X.K c x) (hN : X.N[i]? = some y) (hv : Vis X.env.scope y) (ha : JE X W a f) (hs : swapsWith a (some (.Attribute (.Name y p) x apos)) pos.line X.env = pure false := by rfl) (hd : (y == ("__debug__" : Str)) = false := by decide) (hcd : (y == ("__classdict__" : Str)) = false := by decide) :
    JS X W (.Assign [.Attribute (.Name y p) x apos] a pos) (sFldSet i c x f) := by
  refine PS.imp (ps_fld (pe_var hN hv hd hcd) ha hs) fun D σ H h => ?_
  obtain ⟨B, F, env, S, h⟩ := h
  refine tE_in S .refl (Os.r h) fun x1 e1 v H1 F1 l1 S1 r1 h1 => ?_
  refine fz_in S1 r1 h1 fun d e2 F2 l2 S2 z h2 => ?_
  cases q : setFld i c x (.da d) e2 with
  | none => rw [q] at h2; exact h2.elim
  | some e3 =>
    rw [q] at h2
    obtain ⟨b, fs, q1, q2, rfl⟩ := setFld_at q
    obtain ⟨ad, dx, vs, g1, g2, g3, g4⟩ := S2.ins q1
    obtain ⟨k1, k2⟩ := g4.put (x := x) (.da z)
    refine ⟨.ref ad, g1, ad, _, dx, vs, rfl, g2, fx.cls, fx.no, by rw [g4.len]; omega, ?_⟩
    exact h2 σ _ F2 (l1.trans l2) (S2.insPut q1 g1 g2 k1 fun z hz => by
      rcases k2 z hz with r | ⟨_, ds, r⟩
      · exact .inl r
      · cases r)
theorem js_fldOwn {f : M (List D)} (fx : FldX X.K c x) (hN : X.N[i]? = some y) (hv : Vis X.env.scope y) (ha : JN X W a f) (hs : swapsWith a (some (.Attribute (.Name y p) x apos)) pos.line X.env = pure false := by rfl) (hd : (y == ("__debug__" : Str)) = false := by decide) (hcd : (y == ("__classdict__" : Str)) = false := by decide) :
    JS X W (.Assign [.Attribute (.Name y p) x apos] a pos) (sFldOwn i c x f) := by
  refine PS.imp (ps_fld (pe_var hN hv hd hcd) ha hs) fun D σ H h => ?_
  obtain ⟨B, F, env, S, h⟩ := h
  refine tN_in S .refl (Os.r h) fun ds e1 pp H1 F1 l1 S1 fr h1 => ?_
  cases q : setFld i c x (.li ds) e1 with
  | none => rw [q] at h1; exact h1.elim
  | some e3 =>
    rw [q] at h1
    obtain ⟨b, fs, q1, q2, rfl⟩ := setFld_at q
    obtain ⟨ad, dx, vs, g1, g2, g3, g4⟩ := S1.ins q1
    obtain ⟨ws, w1, w2⟩ := fr.at_
    obtain ⟨k1, k2⟩ := g4.put (x := x) (.li w1 w2)
    refine ⟨.ref ad, g1, ad, _, dx, vs, rfl, g2, fx.cls, fx.no, by rw [g4.len]; omega, ?_⟩
    exact h1 σ _ F1 l1 (S1.insPut q1 g1 g2 k1 fun z hz => by
      rcases k2 z hz with r | ⟨r, _⟩
      · exact .inl r
      · cases r
        exact .inr ⟨fr.nF, fr.nH, fr.ns⟩)
end
end Pf
namespace Pf
open PySem PySem.Spec PyProof.Rows L2
/-! ### defs, methods, __init__ from their data -/
def cm (st : Stmt) (j : Nat) : Stmt := match st with
  | .ClassDef _ _ _ b _ _ _ _ _ _ _ => b.getD j (.Pass ⟨0, 0, 0, 0⟩)
  | _ => .Pass ⟨0, 0, 0, 0⟩
section
variable {P : Program} {w : World} {K : PySem.W.Frag} {mg : Str → Option Value} {base : Heap} {x c m q : Str} {params : Arguments} {body : List Stmt} {scope : Scope} {N ps : List Str} {k : Nat} {g : En → O} {it iu : Option Nat}
abbrev BdArgs2 (x q : Str) (params : Arguments) (body : List Stmt) (scope : Scope) (ps : List Str) : Prop := ∀ (kV doc pm : Value) (an : Option Addr) (cdv ct : Value) (us : List Value), us.length = ps.length → bindArgs (PySem.W.fnOf x q params body scope .none kV doc pm an cdv ct) ⟨us, []⟩ = pure (ps.zip us)
theorem mkG (F : ∃ fd, FunD K x x params body scope [] [] (He.ga K x) fd) (hm : mg x = some (.ref (He.ga K x))) (S : FnScope N ps scope) (ne : ∀ i, it = some i → iu ≠ some i) (ba : BdArgs x params body scope ps) (hb : BdOk P w K mg base N x body scope k g) :
    Fn P w K mg base (k + 1) x (spG K ps.length (runG N.length it iu g)) :=
  let ⟨fd, F⟩ := F
  ⟨_, fd, ps, fn_gen F S ne (hb.go _), hm, F.kp, F.bindsN ba⟩
theorem mkM (F : ∃ fd, FunD K m q params body scope [] [] (He.ma K (He.ga K c) m) fd) (cl : (He.Fa.cls c).ok K = true) (hm : (He.Fa.meth c m).ok K = true) (S : FnScope N ps scope) (ba : BdArgs2 m q params body scope ps) (hb : BdOk P w K mg base N q body scope k g) :
    MtX P w K mg base (k + 1) c m (spG K ps.length (runG N.length none (some 0) g)) :=
  let ⟨fd, F⟩ := F
  ⟨_, fd, ps, fn_gen F S (fun _ z => nomatch z) (hb.go _), He.cls_ok cl, He.meth_ok hm, F.bindsN ba⟩
theorem mkI (F : ∃ fd, FunD K "__init__" q params body scope [] [] (He.ma K (He.ga K c) "__init__") fd) (mk : (He.Fa.mkr c).ok K = true) (hm : mg c = some (.ref (He.ga K c))) (S : FnScope N ps scope) (ba : BdArgs2 "__init__" q params body scope ps) (hb : BdOk P w K mg base N q body scope k g) :
    MkX P w K mg base (k + 1) c (spG K ps.length (runG N.length none (some 0) g)) :=
  let ⟨fd, F⟩ := F
  ⟨_, fd, ps, fn_gen F S (fun _ z => nomatch z) (hb.go _), He.mkr_ok mk, hm, F.bindsN ba⟩
variable {fa : List He.Fa} {fn : List He.DefD} {ex : PySem.W.Frag → Bool}
theorem Ok.fact (c : Ok fa fn ex K mg) (i : Nat) {f : He.Fa} (h : fa[i]? = some f := by rfl) : f.ok K = true :=
  let ⟨_, _, _, s⟩ := c
  s.d.fact i h
theorem FldX.mk' {c x : Str} (cl : (He.Fa.cls c).ok K = true) (no : (He.Fa.noat c x).ok K = true) : FldX K c x := ⟨He.cls_ok cl, He.eqO_ok no⟩
end
/-! ### some = [f, g, ..]; return some[i](e, ..) -/
section
variable {X : Cx} {W : WX} {k n i : Nat} {fs : List Expr} {ms : List (List D → Rf)} {b e : Expr} {es : List Expr} {fb : M Vd} {fa : M (List Vd)} {p0 p1 p2 p3 pos pos1 pos2 : Pos} {y : Str}
def sPickV (i n : Nat) (ms : List (List D → Rf)) (fb : M Vd) (fa : M (List Vd)) : En → O := fun env => if Nat.blt i env.length = true then sRet (ePick n ms fb fa) (env.set i .no) else .bad
theorem SR.setAny {K : PySem.W.Frag} {B : Bs} {F : Hp} {env : En} {σ : L2.St} {H : Hp} (S : SR K B F env σ H) (i : Nat) (v : Option V) : SR K B F (env.set i .no) (σ.set i v) H :=
  S.put i S.same .refl S.fh S.new (by rw [List.length_set]) (fun j ne => List.getElem?_set_ne ne) (fun j s w x _ hj hv f => ⟨rfl, (S.foot hj hv f).2.1⟩)
    fun q => ⟨v, by rw [List.getElem?_set_self (by rw [S.len]; exact q)], trivial, fun x f => f.elim⟩
theorem NoFt.setNo {K : PySem.W.Frag} {env : En} {σ : L2.St} {H : Hp} {p : Addr} {i : Nat} {v : Option V} (h : NoFt env σ H p) : NoFt (env.set i .no) (σ.set i v) H p := fun j s w hj hw f => by
  rcases getElem?_set' _ _ _ _ _ hj with ⟨rfl, rfl, _⟩ | ⟨ne, hj⟩
  · exact f
  · rw [List.getElem?_set_ne ne] at hw
    exact h j s w hj hw f
theorem pe_pickV (F : FnsX X k n fs ms vs) (hr : Room k X.A) (tk : L2N.Takes X W) (hN : X.N[i]? = some y) (hv : Vis X.env.scope y) (hb : JE X W b fb) (ha : JA X W (e :: es) fa) (hs : PlainIx b)
    (he : starEach (e :: es) X.env = (false, eval e X.env) :: starEach es X.env) (hpl : (backTo pos (starEach es X.env)).any (·.1) = false) (hd : (y == ("__debug__" : Str)) = false) (hcd : (y == ("__classdict__" : Str)) = false)
    (hev : eval (.Call (.Subscript (.Name y p1) b p2) (e :: es) [] pos) X.env = (do callWith pos (← eval (.Subscript (.Name y p1) b p2) X.env) [] (backTo pos (starEach (e :: es) X.env)) (backToKw pos (keywordEach [] X.env)))) :
    PE X (.Call (.Subscript (.Name y p1) b p2) (e :: es) [] pos) (fun σ H Q => ∃ B F0 env pl, SR X.K B F0 env σ H ∧ σ[i]? = some (some (.ref pl)) ∧ H pl = some (.lst vs) ∧ F0 pl = none ∧ B.H0 pl = none ∧ NoFt env σ H pl ∧
      Rs (ePick n ms fb fa env) (fun vd e => ∀ v H' F', Le F0 F' → SR X.K B F' e σ H' → VR X.K F' σ v vd → Q v H') (xW W X.K B F0 σ)) := by
  have hf := pe_ix (pos := p2) ix_seq (pe_var (pos := p1) hN hv hd hcd) hb hs
  refine ⟨fun pins s σ H Q I h => ?_⟩
  obtain ⟨B, F0, env, pl, S, hσ, hpl', nF, nH0, ns, h⟩ := h
  rw [hev]
  refine wpAny_bind (thn (hf.run pins s σ H (fun v H1 => ∃ m f fd ps F1 e1, v = .ref f ∧ PySem.W.keepIn X.K (.ref f) = true ∧ Binds X.K fd ps [] ∧ FnOk X.prog X.w X.K X.mg X.base (L2N.CX X.prog X.w) k f fd ps (spP X.K n m) ∧ Le F0 F1 ∧ SR X.K B F1 e1 σ H1 ∧ Rs (eCall (Ar n m) fa e1) (fun vd e => ∀ v H' F', Le F0 F' → SR X.K B F' e σ H' → VR X.K F' σ v vd → Q v H') (xW W X.K B F0 σ)) I ?_) ?_)
  · refine ⟨.ref pl, hσ, ?_⟩
    have nF0 : B.F0 pl = none := S.f0.none nF
    have S2 := S.addH hpl' nF ns
    have hh := Rs.bnd h
    have hx : Rs (fb env) (fun y e => Rs ((fun y e => match rd e y with
      | some (.int i) => (match atI ms i with
        | some m => eCall (Ar n m) fa e
        | none => .bad)
      | _ => .bad) y e) (fun vd e => ∀ v H' F', Le F0 F' → SR X.K B F' e σ H' → VR X.K F' σ v vd → Q v H') (xW W X.K B F0 σ)) (xW W X.K { B with H0 := upd B.H0 pl (.lst vs) } F0 σ) := by
      cases q : fb env with
      | ok x e => rw [q] at hh; exact hh
      | bad => rw [q] at hh; exact hh
      | exc cc e =>
        rw [q] at hh
        intro H' F' l' S'
        exact hh H' F' l' (S'.delH nH0 nF0).1
    refine tE_in S2 .refl hx fun y e1 v H1 F1 l1 S3 r1 h1 => ?_
    obtain ⟨S4, hp4, _, _⟩ := S3.delH nH0 nF0
    dsimp only at h1
    cases q1 : rd e1 y with
    | none => rw [q1] at h1; exact h1.elim
    | some d =>
      rw [q1] at h1
      cases d with
      | int i =>
        simp only at h1
        have t := S4.tp r1 q1
        cases t
        cases q2 : atI ms i with
        | none => rw [q2] at h1; exact h1.elim
        | some m =>
          rw [q2] at h1
          unfold atI at q2
          cases q3 : ixN ms.length i with
          | none => rw [q3] at q2; cases q2
          | some j =>
            rw [q3] at q2
            obtain ⟨f, fd, ps, g1, g2, g3, g4⟩ := F.get (i := j) (m := m) q2
            refine .inl ⟨pl, vs, i, .ref f, rfl, rfl, SqL.of hp4, ?_, m, f, fd, ps, F1, e1, rfl, g2, g3, g4, l1, S4, h1⟩
            unfold atI
            rw [F.len, q3]
            exact g1
      | _ => exact h1.elim
  · rintro u s1 ⟨x, H1, I1, r1, m, f, fd, ps, F1, e1, rfl, hk, hbi, Fm, l1, S1, h1⟩
    cases r1
    have hc : tCallS (spP X.K n (Ar n m)) (WE W) (tA X.K W fa) σ H1 Q := call_in (n := n) ⟨B, F1, e1, S1, h1.mono (fun vd e q v H' F' l' S' r => q v H' F' (l1.trans l') S' r) (fun c e q => xW.mono l1 q)⟩ fun xs ds e e' q hb => ar_len q hb
    refine PySem.W.callWith_K (h₀ := X.base) I1.ok.mod.kin hk (thn (ha.run pos pins s1 σ H1 _ I1 hc) ?_) he hpl
    rintro us s2 ⟨ws, H2, I2, r2, q2⟩
    exact ⟨I2.kIn, run_fnS (fnAr Fm) hr hbi (L2N.passAt tk σ) I2 r2 q2⟩
theorem jb_pickV (F : ∃ vs, FnsX X k n fs ms vs) (hl : ms.length ≤ 100) (hr : Room k X.A) (tk : L2N.Takes X W) (hNd : X.N.Nodup) (hN : X.N[i]? = some y) (hx : Loc X.env.scope y) (hv : Vis X.env.scope y) (hb : JE X W b fb) (ha : JA X W (e :: es) fa) (hs : PlainIx b := by exact fun _ _ => rfl)
    (hsw : swapsWith (.List fs p0) (some (.Name y p3)) pos1.line X.env = pure false := by rfl) (hf : X.fn y = true ∨ X.env.scope.names.lookup y = some .local := by first | exact .inl rfl | exact .inr rfl | assumption)
    (he : starEach (e :: es) X.env = (false, eval e X.env) :: starEach es X.env := by rfl) (hpl : (backTo pos (starEach es X.env)).any (·.1) = false := by rfl) (hd : (y == ("__debug__" : Str)) = false := by decide) (hcd : (y == ("__classdict__" : Str)) = false := by decide)
    (hev : eval (.Call (.Subscript (.Name y p1) b p2) (e :: es) [] pos) X.env = (do callWith pos (← eval (.Subscript (.Name y p1) b p2) X.env) [] (backTo pos (starEach (e :: es) X.env)) (backToKw pos (keywordEach [] X.env))) := by rfl) :
    JB X W [.Assign [.Name y p3] (.List fs p0) pos1, .Return (some (.Call (.Subscript (.Name y p1) b p2) (e :: es) [] pos)) pos2] (sPickV i n ms fb fa) := by
  obtain ⟨vs, F⟩ := F
  refine PSs.imp (pss_cons (ps_set hNd hN hx (pe_lst (pos := p0) F.pa) hsw hf) (pss_one (ps_ret (pe_pickV F hr tk hN hv hb ha hs he hpl hd hcd hev)))) fun D σ H h => ?_
  obtain ⟨B, F0, env, S, h⟩ := h
  refine ⟨by rw [F.len]; exact Nat.le_trans hl (by decide), fun pl np => ?_⟩
  have nF : F0 pl = none := S.fh.none np
  have nH0 : B.H0 pl = none := S.same.none np
  have hpl' : (upd H pl (.lst vs)) pl = some (.lst vs) := upd_same
  have S1 : SR X.K B F0 env σ (upd H pl (.lst vs)) := S.beside np
  have S2 := S1.setAny i (some (.ref pl))
  unfold sPickV at h
  split at h
  · rename_i hi
    have hi : i < σ.length := by rw [S.len]; exact Nat.blt_eq.mp hi
    unfold sRet at h
    refine ⟨B, F0, env.set i .no, pl, S2, List.getElem?_set_self hi, hpl', nF, nH0, NoFt.setNo (K := X.K) (S.noFt np).upd, ?_⟩
    refine Rs.mono (Os.r (σ := σ.set i (some (.ref pl))) h) (fun vd e1 h1 v H1 F1 l1 S3 r1 => ?_) (fun _ _ z => z)
    refine fz_in S3 r1 h1 fun d e2 F2 l2 S4 z h2 => ?_
    exact h2 v _ H1 F2 (l1.trans l2) S4 z
  · exact h.elim
end
end Pf
namespace Pf
open PySem PySem.Spec PyProof.Rows L2
/-! ### len(x), x an instance with its own __len__ -/
section
variable {X : Cx} {W : WX} {k n : Nat} {f C : Addr} {fd : FuncData} {ps : List Str} {sp : Sp} {p p2 pos : Pos} {y c : Str}
theorem call_lenI (F : FnOk X.prog X.w X.K X.mg X.base CX0 k f fd ps sp) (hr : Room (k + 1) X.A) (hs : PySem.W.findIn X.K (.ref C) "__len__" = some (some (.ref f))) (hf : PySem.W.isFn X.K (.ref f) = true) (hb : Binds X.K fd ps []) :
    CallR X (.builtin "len") (fun xs H Q => ∃ a dx fs, xs = [.ref a] ∧ H a = some (.ins C dx fs) ∧ sp [.ref a] H (fun v H' => ∃ i, v = .int i ∧ 0 ≤ i ∧ i < 2 ^ 63 ∧ Q (.int i) H') fun _ _ _ => False) := by
  intro pins s σ H xs us Q I r h
  obtain ⟨a, dx, fs, rfl, ha, hsp⟩ := h
  obtain ⟨u, rfl, ru⟩ := vals1 r
  obtain rfl : u = Value.ref a := ru
  obtain ⟨mA, J, _⟩ := ins_get I.hok ha
  obtain ⟨od, J, _⟩ := J.look
  obtain ⟨m, hF⟩ := I.fr
  refine PySem.W.len_K hF I.ok.mod.kin J hs hf ?_
  have hl := F.len _ _ _ _ hsp
  have e0 : Env0 X.prog X.w X.K X.mg X.base X.A.in1 X.stack s H := I.env0.in1
  have b := hb s [.ref a] I.kIn (by rw [List.append_nil]; exact hl)
  rw [List.append_nil] at b
  refine wpAny_call (codeAny_mono (F.run X.A.in1 X.stack s H ⟨[.ref a], []⟩ [.ref a] [.ref a] _ _ hr.in1 e0 b (.cons rfl .nil) hsp) fun r s' hq => ?_)
  cases r with
  | error e => exact hq.elim
  | ok fl =>
    cases fl with
    | ret w =>
      obtain ⟨z, H', I', rz, i, rfl, h0, h1, q⟩ := I.after hq
      obtain ⟨t, rfl⟩ := rz
      exact ⟨⟨h0, h1⟩, .int i, H', I'.tok _, ⟨_, rfl⟩, q⟩
    | next => exact False.elim hq
    | brk => exact False.elim hq
    | cont => exact False.elim hq
def inL (i : Int) : Bool := decide (0 ≤ i) && Nat.blt i.natAbs 9223372036854775808
theorem inL_ok {i : Int} (h : inL i = true) : 0 ≤ i ∧ i < 2 ^ 63 := by
  obtain ⟨h1, h2⟩ := He.ba h
  have h1 := of_decide_eq_true h1
  have h2 := Nat.blt_eq.mp h2
  omega
/-- a special method without arguments: what it yields must be fit -/
def eSpc (c : Str) (j : Nat) (mm : En → RfE) (fit : D → Bool) : M Vd := fun env => match env[j]? with
  | some (.ob _ (.ins c' fs)) => if decide (c' = c) = true then (match gRun 1 mm none (some 0) none (some j) [.sl j] env with
    | .ok (.dat d) e => if fit d = true then .ok (.dat d) e else .bad
    | _ => .bad) else .bad
  | _ => .bad
def fitLen : D → Bool
  | .int i => inL i
  | _ => false
theorem spc_in {K : PySem.W.Frag} {j : Nat} {mm : En → RfE} {fit : D → Bool} {σ : L2.St} {H : Hp} {Q : VK} (h : tE K W (eSpc c j mm fit) σ H Q) : ∃ a dx vs, σ[j]? = some (some (.ref a)) ∧ H a = some (.ins (He.ga K c) dx vs) ∧
    spG K 1 mm [.ref a] H (fun v H' => ∃ d F', fit d = true ∧ Dq K F' v d ∧ Q v H') fun _ _ _ => False := by
  obtain ⟨B, F, env, S, h⟩ := h
  unfold eSpc at h
  split at h
  · rename_i b c' fs q
    split at h
    · rename_i z
      have z := of_decide_eq_true z
      subst z
      obtain ⟨a, dx, vs, g1, g2, g3, g4⟩ := S.ins q
      refine ⟨a, dx, vs, g1, g2, ?_⟩
      have h1 : Rs (gRun 1 mm none (some 0) none (some j) [.sl j] env) (fun x e => ∃ d, x = .dat d ∧ fit d = true ∧ ∀ v H' F', Le F F' → SR K B F' e σ H' → VR K F' σ v (.dat d) → Q v H') (fun _ _ => False) := by
        cases q2 : gRun 1 mm none (some 0) none (some j) [.sl j] env with
        | bad => rw [q2] at h; exact h.elim
        | exc c e => rw [q2] at h; exact h.elim
        | ok x e =>
          rw [q2] at h
          cases x with
          | sl i => exact h.elim
          | dat d =>
            simp only at h
            split at h
            · rename_i fz
              exact ⟨d, rfl, fz, h⟩
            · exact h.elim
      refine g_in S (VRs.cons (d := .sl j) g1 .nil) (by decide) (by intro _ z; cases z) h1 (fun d e' v H' F' l' S' z hp => ?_) (fun c e' H' F' l' S' z => z.elim)
      obtain ⟨d', ed, fz, k⟩ := hp
      cases ed
      exact ⟨d, F', fz, z, k v H' F' l' S' z⟩
    · exact h.elim
  · exact h.elim
theorem je_lenI {mm : En → RfE} {j : Nat} (F : MtX X.prog X.w X.K X.mg X.base k c "__len__" (spG X.K 1 mm)) (hr : Room (k + 1) X.A) (hN : X.N[j]? = some y) (hv : Vis X.env.scope y) (hg : Gl X "len") (hm : X.mg "len" = none) (hd : (y == ("__debug__" : Str)) = false := by decide) (hcd : (y == ("__classdict__" : Str)) = false := by decide)
    (he : starEach [.Name y p] X.env = (false, eval (.Name y p) X.env) :: starEach [] X.env := by rfl) (hpl : (backTo pos (starEach [] X.env)).any (·.1) = false := by rfl) : JE X W (.Call (.Name "len" p2) [.Name y p] [] pos) (eSpc c j mm fitLen) := by
  obtain ⟨f, fd, ps, F, cl, hm', hb⟩ := F
  refine PE.imp (pe_callB (call_lenI (FnOk.no F) hr hm'.at_ hm'.fn hb) hg hm boot_len (pa_cons (pe_var hN hv hd hcd) pa_nil he) (by decide) (by decide) he hpl) fun σ H Q h => ?_
  obtain ⟨a, dx, vs, g1, g2, g3⟩ := spc_in h
  refine ⟨.ref a, g1, a, dx, vs, rfl, g2, ?_⟩
  obtain ⟨hl, B, F, hs, S, g3⟩ := g3
  refine ⟨hl, B, F, hs, S, ?_⟩
  cases q : mm hs with
  | bad => rw [q] at g3; exact g3
  | exc c t u => rw [q] at g3; exact g3
  | ok d t u =>
    rw [q] at g3
    intro v H' F' l' fn z
    obtain ⟨d', F2, f1, f2, f3⟩ := g3 v H' F' l' fn z
    cases d' with
    | int i =>
      cases f2
      obtain ⟨i0, i1⟩ := inL_ok f1
      exact ⟨i, rfl, i0, i1, f3⟩
    | _ => cases f1
end
/-! ### for x in f(..): x.append(None) -/
def NoT (K : PySem.W.Frag) (H : Hp) : Prop := ∀ (a : Addr) (xs ys : List V), H a = some (.lst xs) → ¬ SqT K H a ys
section
variable {X : Cx} {W : WX}
theorem Inv.noT {pins : List (Addr × Obj)} {σ : L2.St} {H : Hp} {s : Shared} (I : Inv X pins σ H s) : NoT X.K H := fun a xs ys h1 h2 => by
  obtain ⟨its, r, ⟨o, ho, hc, _⟩, _⟩ := I.tuple h2
  obtain ⟨z, its2, n, r2, e⟩ := I.hok a _ h1
  rw [ho] at e
  have e := Option.some.inj e
  subst e
  have hc : Value.type "list" = Value.type "tuple" := hc
  exact absurd hc (by decide)
theorem pe_noT {e : Expr} {t : TE} (h : PE X e t) : PE X e (fun σ H Q => t σ H fun x H1 => NoT X.K H1 → Q x H1) := ⟨fun pins s σ H Q I q => wpAny_mono (h.run pins s σ H _ I q) (fun v s' ⟨x, H1, I1, r, k⟩ => ⟨x, H1, I1, r, k (Inv.noT I1)⟩) fun _ _ z => z⟩
end
mutual
def noLs : D → Bool
  | .list _ => false
  | .dict _ => false
  | .tuple ds => noLsA ds
  | _ => true
def noLsA : List D → Bool
  | [] => true
  | d :: ds => noLs d && noLsA ds
end
/-- without the lists -/
def noLst (F : Hp) : Hp := fun b => match F b with
  | some (.lst _) => none
  | o => o
theorem noLst_le {F : Hp} : Le (noLst F) F := fun b o h => by
  unfold noLst at h
  split at h
  · cases h
  · exact h
theorem noLst_rd {F : Hp} {a : Addr} {xs : List V} (h : Rd F a (.tup xs)) : Rd (noLst F) a (.tup xs) := by
  rcases h with h | ⟨o, h⟩
  · refine .inl ?_
    unfold noLst
    rw [h]
  · refine .inr ⟨o, ?_⟩
    unfold noLst
    rw [h]
mutual
theorem noLs_dq {K : PySem.W.Frag} {F : Hp} : ∀ {v : V} {d : D}, Dq K F v d → noLs d = true → Dq K (noLst F) v d
  | _, _, .non, _ => .non
  | _, _, .bl b, _ => .bl b
  | _, _, .int i, _ => .int i
  | _, _, .str x, _ => .str x
  | _, _, .lst h a, z => by cases z
  | _, _, .tup h a, z => .tup (h.elim (fun h => .inl (noLst_rd h)) .inr) (noLs_dqA a z)
theorem noLs_dqA {K : PySem.W.Frag} {F : Hp} : ∀ {vs : List V} {ds : List D}, DqAll K F vs ds → noLsA ds = true → DqAll K (noLst F) vs ds
  | _, _, .nil, _ => .nil
  | _, _, .cons a b, z => by
    obtain ⟨z1, z2⟩ := He.ba z
    exact .cons (noLs_dq a z1) (noLs_dqA b z2)
end
def isLs : D → Bool
  | .list _ => true
  | _ => false
/-- lists that hold no lists -/
def flatLs : D → Bool
  | .list fs => (fs.all fun x => !isLs x) && Nat.ble fs.length 9000
  | _ => false
def sSpoil (i n : Nat) (m : List D → Rf) (fa : M (List Vd)) : En → O := fun env => (fa env).o fun xs e => (fzAll xs e).o fun ds e => if (Nat.beq ds.length n && (noLsA ds && Nat.blt i e.length)) = true then (match m ds with
  | .ok (.list es) => if (es.all flatLs && Nat.ble es.length 100) = true then .nx (e.set i .no) else .bad
  | _ => .bad) else .bad
theorem SR.forget {K : PySem.W.Frag} {B : Bs} {F : Hp} {env : En} {σ : L2.St} {H : Hp} (S : SR K B F env σ H) (i : Nat) : SR K B F (env.set i .no) σ H :=
  S.put i S.same .refl S.fh S.new rfl (fun j ne => rfl) (fun j s w x _ hj hv f => ⟨rfl, (S.foot hj hv f).2.1⟩)
    fun q => ⟨σ[i]'(by rw [S.len]; exact q), List.getElem?_eq_getElem _, trivial, fun x f => f.elim⟩
theorem NoFt.upd2 {env : En} {σ : L2.St} {H : Hp} {p b : Addr} {o : HO} (h : NoFt env σ H p) (hb : NoFt env σ H b) : NoFt env σ (L2.upd H b o) p := fun j s v hj hv f => h j s v hj hv (by
  cases s with
  | ow b ds => exact f
  | ob bb u =>
    obtain ⟨a, e, f⟩ := f
    have ne : a ≠ b := fun z => hb j _ v hj hv ⟨a, e, .inl z.symm⟩
    exact ⟨a, e, (Ft.same (upd_ne ne)).mp f⟩
  | _ => exact f)
theorem NoFt.forget {env : En} {σ : L2.St} {H : Hp} {p : Addr} {i : Nat} {v : Option V} (h : NoFt (env.set i .no) σ H p) : NoFt (env.set i .no) (σ.set i v) H p := fun j s w hj hw f => by
  by_cases ne : i = j
  · subst ne
    rcases getElem?_set' _ _ _ _ _ hj with ⟨_, rfl, _⟩ | ⟨ne, _⟩
    · exact f
    · exact ne rfl
  · rw [List.getElem?_set_ne ne] at hw
    exact h j s w hj hw f
section
variable {X : Cx} {W : WX} {x y : Str} {p p1 p2 p3 pos pos2 apos : Pos} {e : Expr} {es : List Expr} {fa : M (List Vd)} {m : List D → Rf} {k n i : Nat} {kc : Nat}
theorem js_spoil (hp : PassesOwn (model X.prog X.w) X.A X.env X.xe) (hc : X.calm = true) (F : FnX X k x (spP X.K n m)) (hr : Room k X.A) (hg : Gl X x) (tk : L2N.Takes X W) (ha : JA X W (e :: es) fa) (hN : X.N.Nodup) (hi : X.N[i]? = some y) (hx : Loc X.env.scope y) (hv : Vis X.env.scope y)
    (hf : X.fn y = true ∨ X.env.scope.names.lookup y = some .local := by first | exact .inl rfl | exact .inr rfl | assumption) (hdb : (x == ("__debug__" : Str)) = false := by decide) (he : starEach (e :: es) X.env = (false, eval e X.env) :: starEach es X.env := by rfl) (hpl : (backTo pos (starEach es X.env)).any (·.1) = false := by rfl)
    (hs : ∀ z, foldedSetIterable (.Call (.Name x p) (e :: es) [] pos) X.env z = pure z := by intro _; rfl)
    (hbase : attributeBase (.Name y p2) "append" X.env (eval (.Name y p2) X.env) = eval (.Name y p2) X.env := by rfl)
    (hfew : ((backTo pos2 (starEach [.Constant .none kc p3] X.env)).all (fun x => !x.1) && (backToKw pos2 (keywordEach [] X.env)).all (fun x => x.1.isSome) && decide ([Expr.Constant .none kc p3].length + ([] : List Keyword).length + (if ([] : List Keyword).isEmpty then 0 else 1) < 30)) = true := by rfl)
    (hline : (apos.endLine == pos2.line) = true := by rfl) (hs2 : starEach [.Constant .none kc p3] X.env = (false, eval (.Constant .none kc p3) X.env) :: starEach [] X.env := by rfl) (hpl2 : (backTo pos2 (starEach [] X.env)).any (·.1) = false := by rfl) (hd : (y == ("__debug__" : Str)) = false := by decide) (hcd : (y == ("__classdict__" : Str)) = false := by decide)
    {ps1 ps2 : Pos} (hsw : swapsWith (.Call (.Attribute (.Name y p2) "append" apos) [.Constant .none kc p3] [] pos2) none ps2.line X.env = pure false := by rfl) :
    JS X W (.For (.Name y p1) (.Call (.Name x p) (e :: es) [] pos) [.Expr (.Call (.Attribute (.Name y p2) "append" apos) [.Constant .none kc p3] [] pos2) ps2] [] ps1) (sSpoil i n m fa) := by
  obtain ⟨f, fd, ps, F, hm, hk, hb⟩ := F
  have call := pe_noT (pe_callS (pos := pos) (p := p) F hr hg hm hk hb (fun σ => L2N.passAt tk σ) ha hdb he hpl)
  have body := pss_one (ps_expr (pos := ps2) (pe_bm PySem.F.plainAttrs_list PySem.F.slot_list_append PySem.F.type_list_append mt_append (pe_var (i := i) (pos := p2) hi hv hd hcd) (pa_cons (pe_non (pos := p3) (j := kc)) pa_nil hs2) hbase hfew hline hs2 hpl2) hsw)
  refine PS.imp (ps_for (pos := ps1) hp hc (pi_any call) (pg_name (pos := p1) hN hi hx hf) body hs) fun D σ H h => ?_
  obtain ⟨B, F0, env, S, h⟩ := h
  refine tA_in S .refl (Os.r h) fun xs e1 vs H1 F1 l1 S1 r1 h1 => ?_
  cases q : fzAll xs e1 with
  | bad => rw [q] at h1; exact h1.elim
  | exc c' e' => exact absurd q (fzAll_noexc _ _ _ _)
  | ok ds e2 =>
    rw [q] at h1
    have h1 : Os (if (Nat.beq ds.length n && (noLsA ds && Nat.blt i e2.length)) = true then (match m ds with
      | .ok (.list es) => if (es.all flatLs && Nat.ble es.length 100) = true then O.nx (e2.set i .no) else .bad
      | _ => .bad) else .bad) _ _ _ _ _ := h1
    obtain ⟨F2, l2, S2, z⟩ := SR.fzAll S1 r1 q
    split at h1
    · rename_i c1
      obtain ⟨c1, c2⟩ := He.ba c1
      obtain ⟨c2, c3⟩ := He.ba c2
      have c1 := Nat.eq_of_beq_eq_true c1
      have c3 := Nat.blt_eq.mp c3
      refine ⟨by rw [dqAll_len z]; exact c1, noLst F2, ds, noLst_le.trans S2.fh, noLs_dqA z c2, ?_⟩
      split at h1
      · rename_i es' q2
        rw [q2]
        split at h1
        · rename_i c4
          obtain ⟨c4, c5⟩ := He.ba c4
          have c5 := Nat.le_of_ble_eq_true c5
          intro v H' F' lH lF fH nw zd nt
          cases zd with
          | @lst a xs' _ g1 g2 =>
            -- the lists are new
            have fresh : ∀ b ws, F' b = some (.lst ws) → H1 b = none := fun b ws hb => by
              rcases nw b _ hb with r | r
              · unfold noLst at r
                split at r
                · cases r
                · rename_i no
                  exact absurd r (no _)
              · exact r
            have na := fresh a _ g1
            have inner : ∀ (j : Nat) (u : V), xs'[j]? = some u → ∃ b ws, u = .ref b ∧ H' b = some (.lst ws) ∧ ws.length ≤ 9000 ∧ H1 b = none ∧ b ≠ a := fun j u hu => by
              obtain ⟨d, d1, d2⟩ := dqAll_getV g2 hu
              have fd := List.all_eq_true.mp c4 d (List.mem_of_getElem? d1)
              cases d2 with
              | @lst b ws fs k1 k2 =>
                obtain ⟨f1, f2⟩ := He.ba (show ((fs.all fun x => !isLs x) && Nat.ble fs.length 9000) = true from fd)
                have f2 := Nat.le_of_ble_eq_true f2
                refine ⟨b, ws, rfl, fH _ _ k1, by rw [dqAll_len k2]; exact f2, fresh b _ k1, fun ba => ?_⟩
                subst ba
                rw [g1] at k1
                cases k1
                obtain ⟨d', d1', d2'⟩ := dqAll_getV k2 hu
                have nl := List.all_eq_true.mp f1 d' (List.mem_of_getElem? d1')
                cases d2' with
                | lst _ _ => cases nl
                | tup t1 _ => exact nt b _ _ (fH _ _ g1) (fH.sqT t1)
              | _ => cases fd
            have S3 : SR X.K B F2 e2 σ H' := S2.grow .refl lH (S2.fh.trans lH) fun b o hb => .inl hb
            have S4 := S3.forget i
            have nof : ∀ b, H1 b = none → F2 b = none ∧ B.H0 b = none ∧ NoFt (e2.set i .no) σ H' b := fun b hb => ⟨S2.fh.none hb, S2.same.none hb, (S2.forget i).noFtLe lH ((S2.forget i).noFt hb)⟩
            refine .inl ⟨a, xs', rfl, SqL.of (fH _ _ g1), ?_⟩
            have hlen := dqAll_len g2
            refine ⟨fun t mm σ' H'' => mm = xs'.length - t ∧ t ≤ xs'.length ∧ SR X.K B F2 (e2.set i .no) σ' H'' ∧ H'' a = some (.lst xs') ∧ (∀ (j : Nat) (u : V), xs'[j]? = some u → ∃ b ws, u = .ref b ∧ H'' b = some (.lst ws) ∧ ws.length ≤ 9000 + t ∧ H1 b = none ∧ b ≠ a) ∧ ∀ b, H1 b = none → NoFt (e2.set i .no) σ' H'' b,
              ⟨xs'.length, rfl, Nat.zero_le _, S4, fH _ _ g1, fun j u hu => inner j u hu, fun b hb => (nof b hb).2.2⟩, ?_⟩
            rintro t mm σ2 H2 ⟨rfl, ht, T1, T2, T3, T4⟩
            by_cases hlt : t < xs'.length
            · have hu : xs'[t]? = some xs'[t] := List.getElem?_eq_getElem hlt
              obtain ⟨b, ws, eb, k1, k2, k3, k4⟩ := T3 t _ hu
              refine .inr ⟨⟨xs', xs'[t], SqL.of T2, hu⟩, fun σ' H'' => SR X.K B F2 (e2.set i .no) σ' H'' ∧ H'' a = some (.lst xs') ∧ (∀ (j : Nat) (u : V), xs'[j]? = some u → ∃ b ws, u = .ref b ∧ H'' b = some (.lst ws) ∧ ws.length ≤ 9000 + (t + 1) ∧ H1 b = none ∧ b ≠ a) ∧ ∀ b, H1 b = none → NoFt (e2.set i .no) σ' H'' b,
                fun σ' H'' q => ⟨xs'.length - (t + 1), by omega, rfl, hlt, q⟩, fun xv H3 yl => ?_⟩
              obtain ⟨rfl, yl⟩ := yl
              have ex : xv = .ref b := by
                have := yl xs' (SqL.of T2)
                rw [hu] at this
                rw [← eb]
                exact (Option.some.inj this).symm
              subst ex
              have lσ : i < σ2.length := by have := T1.len; rw [this, List.length_set]; exact c3
              have nb := T4 b k3
              have nb' := NoFt.forget (v := some (.ref b)) nb
              have S5 : SR X.K B F2 (e2.set i .no) (σ2.set i (some (.ref b))) H3 := by
                have := T1.setAny i (some (.ref b))
                rw [List.set_set] at this
                exact this
              refine ⟨.ref b, List.getElem?_set_self lσ, .inl ⟨rfl, ws, SqL.of k1⟩, ?_⟩
              refine ⟨b, ws, .non, rfl, rfl, k1, by rw [sizeLine_eq]; omega, ?_⟩
              refine ⟨SR.other S5 (S2.fh.none k3) (S2.same.none k3) nb', by rw [upd_ne k4.symm]; exact T2, fun j u hu' => ?_, fun b' hb' => NoFt.upd2 (NoFt.forget (T4 b' hb')) nb'⟩
              obtain ⟨b2, ws2, e2', m1, m2, m3, m4⟩ := T3 j u hu'
              by_cases bb : b2 = b
              · subst bb
                rw [k1] at m1
                cases m1
                exact ⟨b2, _, e2', upd_same, by simp; omega, m3, m4⟩
              · exact ⟨b2, ws2, e2', by rw [upd_ne bb]; exact m1, by omega, m3, m4⟩
            · have et : t = xs'.length := by omega
              exact .inl ⟨⟨xs', SqL.of T2, by omega⟩, h1 σ2 H2 F2 (l1.trans l2) T1⟩
        · exact h1.elim
      · exact h1.elim
    · exact h1.elim
end
end Pf
namespace Pf
open PySem PySem.Spec PyProof.Rows L2
/-! ### x.f.append(g(..)), the arguments being read only -/
def tQ (K : PySem.W.Frag) (q : En → Option D) : TE := fun σ H Q => ∃ B F env, SR K B F env σ H ∧ ∃ d, q env = some d ∧ ∀ v, Dq K F v d → Q v H
def tQs (K : PySem.W.Frag) (q : En → Option (List D)) : TA := fun σ H Q => ∃ B F env, SR K B F env σ H ∧ ∃ ds, q env = some ds ∧ ∀ vs, DqAll K F vs ds → Q vs H
abbrev JQ (X : Cx) (e : Expr) (q : En → Option D) : Prop := PE X e (tQ X.K q)
abbrev JQs (X : Cx) (es : List Expr) (q : En → Option (List D)) : Prop := PA X es (tQs X.K q)
def qVar (i : Nat) : En → Option D := fun e => match e[i]? with
  | some (.va d) => some d
  | _ => none
def qFld (i : Nat) (c x : Str) : En → Option D := fun e => match fldD e i c x with
  | some (.da d) => some d
  | _ => none
def qFldIx (i : Nat) (c x : Str) (k : Int) : En → Option D := fun e => match fldD e i c x with
  | some (.li ds) => atI ds k
  | _ => none
def qNil : En → Option (List D) := fun _ => some []
def qCons (q : En → Option D) (r : En → Option (List D)) : En → Option (List D) := fun e => match q e, r e with
  | some d, some ds => some (d :: ds)
  | _, _ => none
section
variable {X : Cx} {W : WX} {c x y : Str} {p pos apos : Pos} {a b e : Expr} {i : Nat}
theorem jq_var (hN : X.N[i]? = some y) (hv : Vis X.env.scope y) (hd : (y == ("__debug__" : Str)) = false := by decide) (hcd : (y == ("__classdict__" : Str)) = false := by decide) : JQ X (.Name y pos) (qVar i) := by
  refine PE.imp (pe_var hN hv hd hcd) fun σ H Q h => ?_
  obtain ⟨B, F, env, S, d, h, k⟩ := h
  unfold qVar at h
  split at h
  · rename_i d' q
    cases h
    obtain ⟨v, g1, z, rfl, g2⟩ := S.sl i _ q
    exact ⟨z, g1, k z g2⟩
  · cases h
theorem jq_fld (fx : FldX X.K c x) (hN : X.N[i]? = some y) (hv : Vis X.env.scope y) (hb : attributeBase (.Name y p) x X.env (eval (.Name y p) X.env) = eval (.Name y p) X.env := by rfl) (hd : (y == ("__debug__" : Str)) = false := by decide) (hcd : (y == ("__classdict__" : Str)) = false := by decide) : JQ X (.Attribute (.Name y p) x apos) (qFld i c x) := by
  refine PE.imp (pe_fldV hN hv hb hd hcd) fun σ H Q h => ?_
  obtain ⟨B, F, env, S, d, h, k⟩ := h
  unfold qFld at h
  split at h
  · rename_i d' q
    cases h
    exact fld_in S fx q fun v k1 k2 k3 => k v (k2 d rfl)
  · cases h
theorem jq_fldIx {k : Int} (fx : FldX X.K c x) (hN : X.N[i]? = some y) (hv : Vis X.env.scope y) (hk : PE X b (tC (.int k))) (hs : PlainIx b := by exact fun _ _ => rfl) (hb : attributeBase (.Name y p) x X.env (eval (.Name y p) X.env) = eval (.Name y p) X.env := by rfl) (hd : (y == ("__debug__" : Str)) = false := by decide) (hcd : (y == ("__classdict__" : Str)) = false := by decide) :
    JQ X (.Subscript (.Attribute (.Name y p) x apos) b pos) (qFldIx i c x k) := by
  refine PE.imp (pe_ix ix_seq (pe_fldV hN hv hb hd hcd) hk hs) fun σ H Q h => ?_
  obtain ⟨B, F, env, S, d, h, kq⟩ := h
  unfold qFldIx at h
  split at h
  · rename_i ds q
    refine fld_in S fx q fun v k1 k2 k3 => ?_
    obtain ⟨l, ws, rfl, h1, h2⟩ := k3 ds rfl
    obtain ⟨v, e1, e2⟩ := at_dq h2 h
    exact .inl ⟨l, ws, k, v, rfl, rfl, SqL.of h1, e1, kq v e2⟩
  · cases h
theorem jq_nil : JQs X [] qNil := PA.imp pa_nil fun σ H Q h => by
  obtain ⟨B, F, env, S, ds, h, k⟩ := h
  cases h
  exact k [] .nil
theorem jq_cons {es : List Expr} {q : En → Option D} {r : En → Option (List D)} (ha : JQ X a q) (hr : JQs X es r) (hs : starEach (a :: es) X.env = (false, eval a X.env) :: starEach es X.env := by rfl) : JQs X (a :: es) (qCons q r) := by
  refine PA.imp (pa_cons ha hr hs) fun σ H Q h => ?_
  obtain ⟨B, F, env, S, ds, h, k⟩ := h
  unfold qCons at h
  split at h
  · rename_i d ds' q1 q2
    cases h
    exact ⟨B, F, env, S, d, q1, fun v z => ⟨B, F, env, S, ds', q2, fun vs zs => k (v :: vs) (.cons z zs)⟩⟩
  · cases h
end
def oneLi : List (Str × Fv) → Bool
  | [] => false
  | (_, .li _) :: fs => fs.all fun p => match p.2 with
    | .da _ => true
    | .li _ => false
  | (_, .da _) :: fs => oneLi fs
theorem FsR.noLi {K : PySem.W.Frag} {F H H' : Hp} : ∀ {vs : List (Str × V)} {fs : List (Str × Fv)}, FsR K F H vs fs → (fs.all fun p => match p.2 with | .da _ => true | .li _ => false) = true → FsR K F H' vs fs ∧ lisA vs fs = []
  | _, _, .nil, _ => ⟨.nil, rfl⟩
  | _, _, .da g t, h => by
    obtain ⟨i1, i2⟩ := FsR.noLi (H' := H') t (He.ba h).2
    exact ⟨.da g i1, by rw [lisA_da]; exact i2⟩
  | _, _, .li g g2 t, h => by cases (He.ba h).1
theorem FsR.mut {K : PySem.W.Frag} {F H : Hp} {x : Str} {ds ds' : List D} {ws' : List V} (l : Le F H) (w : DqAll K F ws' ds') : ∀ {vs : List (Str × V)} {fs : List (Str × Fv)}, FsR K F H vs fs → oneLi fs = true → fs.lookup x = some (.li ds) →
    ∃ a ws, vs.lookup x = some (.ref a) ∧ H a = some (.lst ws) ∧ DqAll K F ws ds ∧ lisA vs fs = [a] ∧ FsR K F (L2.upd H a (.lst ws')) vs (putFv x (.li ds') fs) ∧ lisA vs (putFv x (.li ds') fs) = [a]
  | _, _, .nil, h, _ => by cases h
  | _, _, .da (x := y) (v := v) (d := d) g t, h, e => by
    rw [List.lookup_cons] at e
    cases q : x == y with
    | true => rw [q] at e; cases e
    | false =>
      rw [q] at e
      obtain ⟨a, ws, h1, h2, h3, h4, h5, h6⟩ := FsR.mut l w t h e
      have ne : ¬ y = x := fun z => by subst z; simp at q
      have pe : ∀ r : List (Str × Fv), putFv x (.li ds') ((y, .da d) :: r) = (y, .da d) :: putFv x (.li ds') r := fun r => if_neg ne
      rw [pe]
      refine ⟨a, ws, by rw [List.lookup_cons, q]; exact h1, h2, h3, by rw [lisA_da]; exact h4, .da g h5, by rw [lisA_da]; exact h6⟩
  | _, _, .li (x := y) (l := a) (ws := ws) (ds := ds0) g g2 t, h, e => by
    have h : (_ : List (Str × Fv)).all (fun p => match p.2 with | .da _ => true | .li _ => false) = true := h
    rw [List.lookup_cons] at e
    cases q : x == y with
    | true =>
      rw [q] at e
      cases e
      have ye : y = x := (eq_of_beq q).symm
      have pe : ∀ r : List (Str × Fv), putFv x (.li ds') ((y, .li ds) :: r) = (y, .li ds') :: r := fun r => if_pos ye
      rw [pe]
      obtain ⟨i1, i2⟩ := FsR.noLi (H' := L2.upd H a (.lst ws')) t h
      refine ⟨a, ws, by rw [List.lookup_cons, q], g, g2, ?_, .li upd_same w i1, ?_⟩
      · show a :: lisA _ _ = _; rw [i2]
      · show a :: lisA _ _ = _; rw [i2]
    | false =>
      rw [q] at e
      exfalso
      have mem : ∀ {fs : List (Str × Fv)}, fs.lookup x = some (.li ds) → (fs.all fun p => match p.2 with | .da _ => true | .li _ => false) = true → False := by
        intro fs
        induction fs with
        | nil => intro e; cases e
        | cons p fs ih =>
          intro e hh
          obtain ⟨k1, k2⟩ := He.ba hh
          obtain ⟨z, fv⟩ := p
          rw [List.lookup_cons] at e
          cases qz : x == z with
          | true => rw [qz] at e; cases e; cases k1
          | false => rw [qz] at e; exact ih e k2
      exact mem e h
section
variable {K : PySem.W.Frag} {B : Bs} {F : Hp} {env : En} {σ : L2.St} {H : Hp}
/-- the list of an instance's attribute changes -/
theorem SR.insMut (S : SR K B F env σ H) {i : Nat} {b : Bool} {c : Str} {fs fs' : List (Str × Fv)} {a dx l : Addr} {vs : List (Str × V)} {ws' : List V} (hi : env[i]? = some (.ob b (.ins c fs))) (hv : σ[i]? = some (some (.ref a))) (hH : H a = some (.ins (He.ga K c) dx vs)) (hl : lisA vs fs = [l]) (hl' : lisA vs fs' = [l]) {ws : List V} (hw : H l = some (.lst ws))
    (r : FsR K F (upd H l (.lst ws')) vs fs') : SR K B F (env.set i (.ob b (.ins c fs'))) σ (upd H l (.lst ws')) := by
  obtain ⟨v, g1, a', e, ⟨dx', vs0, k1, k2, k3⟩, k4, k5⟩ := S.sl i _ hi
  rw [hv] at g1
  cases g1
  cases e
  rw [hH] at k1
  cases k1
  have fl : Ft H a (.ins c fs) l := .inr ⟨_, dx, vs, hH, .inr (by rw [hl]; exact List.mem_cons_self)⟩
  have nl := k4 l fl
  have al : a ≠ l := fun z => by subst z; rw [hH] at hw; cases hw
  have dl : dx ≠ l := fun z => by subst z; rw [k2] at hw; cases hw
  have no : ∀ (j : Nat) (s : Sl) (v : Option V) (x : Addr), i ≠ j → env[j]? = some s → σ[j]? = some v → Foot H s v x → ¬ Ft H a (.ins c fs) x := fun j s v x ne hj hw f f' =>
    S.own i j _ s _ v x ne hi hj hv hw ⟨a, rfl, f'⟩ f
  have hn : (upd H l (.lst ws')) a = some (.ins (He.ga K c) dx vs) := by rw [upd_ne al]; exact hH
  have feet : ∀ x, Ft (upd H l (.lst ws')) a (.ins c fs') x → Ft H a (.ins c fs) x := fun x f => by
    rcases f with rfl | ⟨C', dx', vs1, e1, e2⟩
    · exact .inl rfl
    · rw [hn] at e1
      cases e1
      rcases e2 with rfl | e2
      · exact .inr ⟨_, _, vs, hH, .inl rfl⟩
      · rw [hl'] at e2
        exact .inr ⟨_, _, vs, hH, .inr (by rw [hl]; exact e2)⟩
  refine S.put i (fun b o e => ?_) .refl (S.fh.updr nl.1) S.new rfl (fun _ _ => rfl) (fun j s v x ne hj hw2 f => ⟨upd_ne fun z => ?_, (S.foot hj hw2 f).2.1⟩) fun _ => ⟨_, hv, ⟨a, rfl, ⟨dx, vs, hn, by rw [upd_ne dl]; exact k2, r⟩, fun x f => k4 x (feet x f), k5⟩, fun x f j s v ne hj hw2 f' => ?_⟩
  · rw [upd_ne (ne_of_none e nl.2)]; exact S.same b o e
  · exact no j s v x ne hj hw2 f (z ▸ fl)
  · obtain ⟨a', e, f⟩ := f
    cases e
    exact no j s v x ne hj hw2 f' (feet x f)
end
def eFldApp (i : Nat) (c x : Str) (n : Nat) (m : List D → Rf) (q : En → Option (List D)) : M Vd := fun e => match e[i]?, q e with
  | some (.ob b (.ins c' fs)), some as => if (decide (c' = c) && (oneLi fs && Nat.beq as.length n)) = true then (match fs.lookup x with
    | some (.li ds) => if szL ds.length = true then (match m as with
      | .ok d => .ok (.dat .none) (e.set i (.ob b (.ins c (putFv x (.li (ds ++ [d])) fs))))
      | .exc c2 => .exc c2 e
      | .bad => .bad) else .bad
    | _ => .bad) else .bad
  | _, _ => .bad
section
variable {X : Cx} {W : WX} {c x y g : Str} {p p2 p3 p4 pos apos pos2 : Pos} {a b e : Expr} {es : List Expr} {i k n : Nat} {m : List D → Rf} {q : En → Option (List D)}
theorem je_fldApp (fx : FldX X.K c x) (F : FnX X k g (spP X.K n m)) (hr : Room k X.A) (hg : Gl X g) (tk : L2N.Takes X W) (hN : X.N[i]? = some y) (hv : Vis X.env.scope y) (ha : JQs X (e :: es) q)
    (hb : attributeBase (.Name y p) x X.env (eval (.Name y p) X.env) = eval (.Name y p) X.env := by rfl) (hd : (y == ("__debug__" : Str)) = false := by decide) (hcd : (y == ("__classdict__" : Str)) = false := by decide)
    (hdb : (g == ("__debug__" : Str)) = false := by decide) (he : starEach (e :: es) X.env = (false, eval e X.env) :: starEach es X.env := by rfl) (hpl : (backTo pos2 (starEach es X.env)).any (·.1) = false := by rfl)
    (hbase : attributeBase (.Attribute (.Name y p) x p2) "append" X.env (eval (.Attribute (.Name y p) x p2) X.env) = eval (.Attribute (.Name y p) x p2) X.env := by rfl)
    (hfew : ((backTo pos (starEach [.Call (.Name g p3) (e :: es) [] pos2] X.env)).all (fun x => !x.1) && (backToKw pos (keywordEach [] X.env)).all (fun x => x.1.isSome) && decide ([Expr.Call (.Name g p3) (e :: es) [] pos2].length + ([] : List Keyword).length + (if ([] : List Keyword).isEmpty then 0 else 1) < 30)) = true := by rfl)
    (hline : (apos.endLine == pos.line) = true := by rfl) (hs : starEach [.Call (.Name g p3) (e :: es) [] pos2] X.env = (false, eval (.Call (.Name g p3) (e :: es) [] pos2) X.env) :: starEach [] X.env := by rfl) (hpl2 : (backTo pos (starEach [] X.env)).any (·.1) = false := by rfl) :
    JE X W (.Call (.Attribute (.Attribute (.Name y p) x p2) "append" apos) [.Call (.Name g p3) (e :: es) [] pos2] [] pos) (eFldApp i c x n m q) := by
  obtain ⟨f, fd, ps, F, hm, hk, hbi⟩ := F
  have call := pe_callS (pos := pos2) (p := p3) F hr hg hm hk hbi (fun σ => L2N.passAt tk σ) ha hdb he hpl
  refine PE.imp (pe_bm PySem.F.plainAttrs_list PySem.F.slot_list_append PySem.F.type_list_append mt_append (pe_fldV (apos := p2) hN hv hb hd hcd) (pa_cons call pa_nil hs) hbase hfew hline hs hpl2) fun σ H Q h => ?_
  obtain ⟨B, F0, env, S, h⟩ := h
  unfold eFldApp at h
  split at h
  · rename_i b0 c' fs as q1 q2
    split at h
    · rename_i z
      obtain ⟨z1, z2⟩ := He.ba z
      obtain ⟨z2, z3⟩ := He.ba z2
      have z1 := of_decide_eq_true z1
      have z3 := Nat.eq_of_beq_eq_true z3
      subst z1
      split at h
      · rename_i ds q3
        split at h
        · rename_i hz
          obtain ⟨ad, dx, vs, g1, g2, g3, g4⟩ := S.ins q1
          obtain ⟨l, ws, h1, h2, h3, h4, _⟩ := g4.mut (x := x) (ds' := []) (ws' := []) S.fh .nil z2 q3
          refine ⟨.ref ad, g1, ad, _, dx, vs, .ref l, rfl, g2, fx.cls, fx.no, h1, .inl ⟨rfl, ws, SqL.of h2⟩, ?_⟩
          refine ⟨B, F0, env, S, as, q2, fun us zs => ?_⟩
          refine ⟨by rw [dqAll_len zs]; exact z3, F0, as, S.fh, zs, ?_⟩
          cases q4 : m as with
          | bad => rw [q4] at h; exact h.elim
          | exc c2 =>
            rw [q4] at h
            intro H' lH
            exact h H' F0 .refl (S.grow .refl lH (S.fh.trans lH) fun b o e => .inl e)
          | ok d =>
            rw [q4] at h
            intro v H' F' lH lF fH nw zd
            have S1 : SR X.K B F' env σ H' := S.grow lF lH fH nw
            have g4' : FsR X.K F' H' vs fs := by
              obtain ⟨a2, dx2, vs2, e1, e2, e3, e4⟩ := S1.ins q1
              rw [g1] at e1
              cases e1
              rw [lH _ _ g2] at e2
              cases e2
              exact e4
            obtain ⟨l2, ws2, k1, k2, k3, k4, k5, k6⟩ := g4'.mut (x := x) (ds' := ds ++ [d]) (ws' := ws ++ [v]) S1.fh (dqAll_app (lF.dqAll h3) (.cons zd .nil)) z2 q3
            rw [h1] at k1
            cases k1
            refine ⟨l, ws, v, rfl, rfl, lH _ _ h2, ?_, ?_⟩
            · rw [dqAll_len h3]; exact Nat.lt_of_le_of_lt (szL_le hz) (by decide)
            · exact h .non _ F' lF (S1.insMut q1 g1 (lH _ _ g2) k4 k6 (lH _ _ h2) k5) .non
        · exact h.elim
      · exact h.elim
    · exact h.elim
  · exact h.elim
end
end Pf
namespace Pf
open PySem PySem.Spec PyProof.Rows L2
/-! ### str(x), x an instance with its own __str__ -/
section
variable {prog : Program} {w : World} {A : Around} {E : Value → Shared → Prop} {s : Shared} {K : PySem.W.Frag} {x C f : Addr} {ox : Obj} {od : Option Obj}
open Builtin Builtin.Str in
theorem str_call {Q : Value → Shared → Prop} (hu : A.in1.in1.units < cLine) (X : K.In s.heap) (I : PySem.W.InstAt s.heap x ox C od) (hs : PySem.W.findIn K (.ref C) "__str__" = some (some (.ref f))) (hf : PySem.W.isFn K (.ref f) = true) (h : wpAny (model prog w) A.in1.in1 (call (.ref f) [.ref x]) (PySem.W.StrBack Q) E s) : wpAny (model prog w) A (call (.type "str") [.ref x]) Q E s := by
  refine callType_codes (T := "str") (Bi := Builtin.«object.__init__») (Q₁ := fun r s₁ => ∃ y u, r = .str y u ∧ Q r s₁) PySem.F.called_str (PySem.F.typeCall_str_1 _) PySem.F.entry_object_init ?_ ?_
  · refine codeAny_of_tree ?_
    show wpAny _ A.in1.in1 (do checkBuiltinCall "str.__new__" ⟨[.type "str", .ref x], []⟩; again (.builtin "str.__new__" ⟨[.type "str", .ref x], []⟩)) _ _ s
    refine wpAny_bind (wpAny_of_eq (PySem.F.newCall_str_1 _) (wpAny_pure ⟨plainId_quiet (by decide +kernel) _, codeAny_builtin PySem.F.entry_str_new ?_⟩))
    rw [Around.under_plainId (by decide +kernel) _]
    rw [PySem.str_new_tree]
    refine wpAny_bind (wpAny_pure ?_)
    refine wpAny_bind (wpAny_of_eq isSubtype_str_str ?_)
    have key : wpAny (model prog w) A.in1.in1 (PySem.Builtin.Str.strOf (.ref x)) (fun r s₁ => ∃ y u, r = .str y u ∧ Q r s₁) E s := by
      unfold PySem.Builtin.Str.strOf
      rw [show isExactStr (.ref x) = false from rfl]
      refine wpAny_bind (m := cRoomFor _ _) (wpAny_cRoomFor hu ?_)
      refine wpAny_bind (m := callSpecial? (.ref x) (Str.ofString "__str__")) (PySem.W.special_fn X I hs (beq_iff_eq.mp hf) (wpAny_mono h (fun r s' z => ?_) fun _ _ y => y))
      cases r <;> first | exact z.elim | exact wpAny_pure ⟨_, _, rfl, z⟩
    exact wpAny_bind (wpAny_mono key (fun r s₁ hr => wpAny_pure hr) fun _ _ y => y)
  · rintro obj s₁ ⟨y, u, rfl, hq⟩
    exact ⟨typeIs_str _ _ _, PySem.F.args_object_init_2 _ _, object_init_meets PySem.F.called_str.init.lookup PySem.F.called_str.made (by decide) prog w A.in1 _ s₁ ⟨typeIs_str _ _ _, rfl, hq⟩⟩
end
section
variable {X : Cx} {W : WX} {k n : Nat} {f C : Addr} {fd : FuncData} {ps : List Str} {sp : Sp} {p p2 pos : Pos} {y c : Str}
theorem call_strI (F : FnOk X.prog X.w X.K X.mg X.base CX0 k f fd ps sp) (hr : Room (k + 2) X.A) (hs : PySem.W.findIn X.K (.ref C) "__str__" = some (some (.ref f))) (hf : PySem.W.isFn X.K (.ref f) = true) (hb : Binds X.K fd ps []) :
    CallR X (.type "str") (fun xs H Q => ∃ a dx fs, xs = [.ref a] ∧ H a = some (.ins C dx fs) ∧ sp [.ref a] H (fun v H' => ∃ z, v = .str z ∧ Q (.str z) H') fun _ _ _ => False) := by
  intro pins s σ H xs us Q I r h
  obtain ⟨a, dx, fs, rfl, ha, hsp⟩ := h
  obtain ⟨u, rfl, ru⟩ := vals1 r
  obtain rfl : u = Value.ref a := ru
  obtain ⟨mA, J, _⟩ := ins_get I.hok ha
  obtain ⟨od, J, _⟩ := J.look
  refine str_call hr.in1.in1.units0 I.kIn J hs hf ?_
  have hl := F.len _ _ _ _ hsp
  have e0 : Env0 X.prog X.w X.K X.mg X.base X.A.in1.in1 X.stack s H := I.env0.in1.in1
  have b := hb s [.ref a] I.kIn (by rw [List.append_nil]; exact hl)
  rw [List.append_nil] at b
  refine wpAny_call (codeAny_mono (F.run X.A.in1.in1 X.stack s H ⟨[.ref a], []⟩ [.ref a] [.ref a] _ _ hr.in1.in1 e0 b (.cons rfl .nil) hsp) fun r s' hq => ?_)
  cases r with
  | error e => exact hq.elim
  | ok fl =>
    cases fl with
    | ret w =>
      obtain ⟨z, H', I', rz, x, rfl, q⟩ := I.after hq
      obtain ⟨t, rfl⟩ := rz
      exact ⟨.str x, H', I', ⟨_, rfl⟩, q⟩
    | next => exact False.elim hq
    | brk => exact False.elim hq
    | cont => exact False.elim hq
def fitStr : D → Bool
  | .str _ => true
  | _ => false
theorem je_strI {mm : En → RfE} {j : Nat} (F : MtX X.prog X.w X.K X.mg X.base k c "__str__" (spG X.K 1 mm)) (hr : Room (k + 2) X.A) (hN : X.N[j]? = some y) (hv : Vis X.env.scope y) (hg : Gl X "str") (hm : X.mg "str" = none) (hd : (y == ("__debug__" : Str)) = false := by decide) (hcd : (y == ("__classdict__" : Str)) = false := by decide)
    (he : starEach [.Name y p] X.env = (false, eval (.Name y p) X.env) :: starEach [] X.env := by rfl) (hpl : (backTo pos (starEach [] X.env)).any (·.1) = false := by rfl) : JE X W (.Call (.Name "str" p2) [.Name y p] [] pos) (eSpc c j mm fitStr) := by
  obtain ⟨f, fd, ps, F, cl, hm', hb⟩ := F
  refine PE.imp (pe_callTy (call_strI (FnOk.no F) hr hm'.at_ hm'.fn hb) hg hm boot_str (pa_cons (pe_var hN hv hd hcd) pa_nil he) (by decide) (by decide) he hpl) fun σ H Q h => ?_
  obtain ⟨a, dx, vs, g1, g2, g3⟩ := spc_in h
  refine ⟨.ref a, g1, a, dx, vs, rfl, g2, ?_⟩
  obtain ⟨hl, B, F, hs, S, g3⟩ := g3
  refine ⟨hl, B, F, hs, S, ?_⟩
  cases q : mm hs with
  | bad => rw [q] at g3; exact g3
  | exc c t u => rw [q] at g3; exact g3
  | ok d t u =>
    rw [q] at g3
    intro v H' F' l' fn z
    obtain ⟨d', F2, f1, f2, f3⟩ := g3 v H' F' l' fn z
    cases d' with
    | str i =>
      cases f2
      exact ⟨i, rfl, f3⟩
    | _ => cases f1
end
end Pf
namespace Pf
open PySem PySem.Spec PyProof.Rows L2
/-! ### set(xs), xs a list of ints -/
/-- a set as it is laid -/
abbrev oSet (w : World) : Obj := { cls := .type "set", dict := none, data := .set #[] 0 (.fresh 0 0 (!w.params.followText "set-order")) }
section
variable {P : Program} {w : World} {A : Around} {E : Value → Shared → Prop} {s : Shared}
theorem setListR {l : Addr} {its : Array Value} (js : List Int) {Q : Value → Shared → Prop} (hA : A.handled = none) (il : s.heap.IsList l its) (hin : IntsAre its.toList js) (bd : js.length + 1 < scanBound)
    (fin : ∀ (h₁ : Heap) (tk c : Nat), SetR w h₁ s.heap.objs.size (fun j => decide (j ∈ js)) c → c ≤ js.length → (∀ b o, s.heap.get? b = some o → h₁.get? b = some o) → Q (.ref s.heap.objs.size) { s with heap := h₁, toks := tk }) :
    wpAny (model P w) A (call (.type "set") [.ref l]) Q E s := by
  have szs : its.size = js.length := (Array.length_toList (xs := its)).symm.trans (IntsAre.length hin)
  have C := F.called_set
  obtain ⟨c0, rest, mro⟩ := C.mro
  have g1 := C.made
  have g2 := C.sub
  have g3 := C.notType
  have g4 := C.canCreate
  have g5 := F.typeCall_set_1 (.ref l)
  refine wpAny_call (codeAny_of_tree ?_)
  show wpAny _ _ (callAny (.type "set") _) _ _ _
  refine wpAny_pure ⟨Code.quiet_builtin _ (by decide +kernel), ?_⟩
  refine codeAny_builtin F.entry_type_call ?_
  rw [Around.under_plain (weight_type_call_type "set" [.ref l] []) rfl]
  repeat (any_goals (first | assumption | wp_step))
  have new0 : (s.heap.push (oSet w)).get? s.heap.objs.size = some (oSet w) := Heap.get?_push_size _ rfl
  refine codeAny_mono (code_set_led1 (.ref l) (E := E) (Q₁ := fun v z => v = .ref s.heap.objs.size ∧ z = { s with heap := s.heap.push (oSet w) }) ⟨rfl, rfl⟩) fun r z hz => ?_
  cases r with
  | error e => exact hz
  | ok fl =>
    cases fl with
    | ret v =>
      obtain ⟨rfl, rfl⟩ := hz
      have tyS : Shared.TypeIs { s with heap := s.heap.push (oSet w) } (.ref s.heap.objs.size) "set" := ⟨_, new0, rfl⟩
      have g6 := C.init.lookup
      have g7 := C.init.bind (.ref s.heap.objs.size)
      repeat (any_goals (first | assumption | wp_step))
      refine codeAny_mono (codeAny_call_builtin (R := wants (fun r z => r = .none ∧ ∃ h₁ tk c, z = { s with heap := h₁, toks := tk } ∧ SetR w h₁ s.heap.objs.size (fun j => decide (j ∈ js)) c ∧ c ≤ js.length ∧ ∀ b o, s.heap.get? b = some o → h₁.get? b = some o) E)
        C.init.plain F.entry_set_init (check_set_init_1 tyS ?_)) fun r z hz => ?_
      · obtain ⟨⟨oc, od, oda, osl⟩, at_, e1, m, e2⟩ := il
        simp only at e1 e2
        subst e1; subst e2
        have at1 : (s.heap.push (oSet w)).get? l = some { cls := .type "list", dict := od, data := .seq its m, slots := osl } := Heap.get?_push_of_some _ at_
        have il1 : (s.heap.push (oSet w)).IsList l its := ⟨_, at1, rfl, m, rfl⟩
        have k1 := F.sub_list_set
        have k2 := F.sub_list_frozenset
        have k3 : (Value.type "list" == Value.type "dict") = false := by decide
        unfold Builtin.«set.__init__» noKeywords Builtin.Frozenset.updateFrom
        generalize hIt : pyIter = It
        wp_walk
        subst hIt
        refine wpAny_pyIter_list il1 (wpAny_bind (wpAny_runValue ?_))
        have lt0 : l < s.heap.objs.size := Heap.lt_size at_
        have sz1 : (s.heap.push (oSet w)).objs.size = s.heap.objs.size + 1 := Heap.size_push ..
        have hA3 : A.in1.in1.in1.handled = none := by simp [hA]
        have ne1 : l ≠ (s.heap.push (oSet w)).objs.size := by rw [sz1]; exact Nat.ne_of_lt (Nat.lt_succ_of_lt lt0)
        have ni : s.heap.objs.size ∉ [(s.heap.push (oSet w)).objs.size, l] := by
          rw [sz1]
          intro z
          rcases List.mem_cons.mp z with z | z
          · exact absurd z (Nat.ne_of_lt (Nat.lt_succ_self _))
          · exact absurd (List.mem_singleton.mp z) (Nat.ne_of_gt lt0)
        have val : ∀ (i : Nat) (v : Value), its[i]? = some v → ∃ k t, js[i]? = some k ∧ v = .int k t := fun i v hv => by
          have hi : i < js.length := szs ▸ (Array.getElem?_eq_some_iff.mp hv).1
          obtain ⟨t, e⟩ := IntsAre.int_at hin i v ((Array.getElem?_toList ..).trans hv)
          exact ⟨js[i], t, List.getElem?_eq_getElem hi, by rw [e, List.getD_eq_getElem?_getD, List.getElem?_eq_getElem hi]; rfl⟩
        refine set_update_ints ((Walks.list hA3 _ l ne1 its).toS) s.heap.objs.size ni js szs bd val its.size 0 _ rfl (Nat.zero_le _) ⟨⟨_, Heap.get?_push_size _ rfl, rfl, rfl⟩, il1.push _⟩ ⟨0, Nat.le_refl 0, setR_new_at (Heap.get?_push_of_some _ new0)⟩ fun z c mv hc R => ?_
        obtain ⟨h₁, gg, dd, tt, oo⟩ := z
        have eg : gg = s.gens := mv.gens
        have ed : dd = s.drawn := mv.drawn
        have eo : oo = s.os := mv.os
        subst eg; subst ed; subst eo
        show wpAny _ _ _ _ _ _
        refine wpAny_pure ?_
        show wpAny _ _ (ret Value.none) _ _ _
        refine wpAny_pure ⟨rfl, h₁, tt, c, rfl, R, szs ▸ hc, fun b o e => ?_⟩
        have lb : b < s.heap.objs.size := Heap.lt_size e
        refine mv.heap b o ?_ (Heap.get?_push_of_some _ (Heap.get?_push_of_some _ e))
        intro z
        rw [sz1] at z
        rcases List.mem_cons.mp z with z | z
        · exact absurd z (Nat.ne_of_lt lb)
        · exact absurd (List.mem_singleton.mp z) (Nat.ne_of_lt (Nat.lt_succ_of_lt lb))
      · cases r with
        | error e => exact hz
        | ok fl =>
          cases fl with
          | ret v =>
            obtain ⟨rfl, h₁, tk, c, rfl, R, hc, kp⟩ := hz
            repeat (any_goals (first | assumption | wp_step))
            exact fin h₁ tk c R hc kp
          | _ => exact hz
    | _ => exact hz
end
end Pf
namespace Pf
open PySem PySem.Spec PyProof.Rows L2
/-! ### ascending lists -/
/-- k goes into an ascending list, once -/
def insU (k : Int) : List Int → List Int
  | [] => [k]
  | x :: xs => if k < x then k :: x :: xs else if k = x then x :: xs else x :: insU k xs
def sortU : List Int → List Int
  | [] => []
  | k :: ks => insU k (sortU ks)
theorem mem_insU {k j : Int} : ∀ {l : List Int}, j ∈ insU k l ↔ j = k ∨ j ∈ l
  | [] => by simp [insU]
  | x :: xs => by
    unfold insU
    split
    · simp
    · split
      · rename_i e; subst e; simp
      · rw [List.mem_cons, mem_insU, List.mem_cons]
        constructor
        · rintro (h | h | h) <;> simp [h]
        · rintro (h | h | h) <;> simp [h]
theorem pw_insU {k : Int} : ∀ {l : List Int}, l.Pairwise (· < ·) → (insU k l).Pairwise (· < ·)
  | [], _ => by simp [insU]
  | x :: xs, h => by
    obtain ⟨h1, h2⟩ := List.pairwise_cons.mp h
    unfold insU
    split
    · rename_i c
      refine List.pairwise_cons.mpr ⟨fun y hy => ?_, h⟩
      rcases List.mem_cons.mp hy with e | hy
      · rw [e]; exact c
      · exact Int.lt_trans c (h1 y hy)
    · split
      · exact h
      · refine List.pairwise_cons.mpr ⟨fun y hy => ?_, pw_insU h2⟩
        rcases mem_insU.mp hy with e | hy
        · omega
        · exact h1 y hy
theorem mem_sortU {j : Int} : ∀ {l : List Int}, j ∈ sortU l ↔ j ∈ l
  | [] => by simp [sortU]
  | k :: ks => by rw [sortU, mem_insU, mem_sortU, List.mem_cons]
theorem pw_sortU : ∀ l : List Int, (sortU l).Pairwise (· < ·)
  | [] => .nil
  | _ :: ks => pw_insU (pw_sortU ks)
theorem pw_nodup {l : List Int} (h : l.Pairwise (· < ·)) : l.Nodup := h.imp fun h e => by omega
theorem sortU_uniq {l ns : List Int} (h : l.Pairwise (· < ·)) (m : ∀ k, k ∈ l ↔ k ∈ ns) : l = sortU ns :=
  List.Perm.eq_of_pairwise (le := fun a b : Int => a < b) (fun a b _ _ h1 h2 => by omega) h (pw_sortU ns) ((List.perm_ext_iff_of_nodup (pw_nodup h) (pw_nodup (pw_sortU ns))).mpr fun k => (m k).trans mem_sortU.symm)
/-- k goes into an ascending list -/
def insI (k : Int) : List Int → List Int
  | [] => [k]
  | x :: xs => if k ≤ x then k :: x :: xs else x :: insI k xs
def sortI : List Int → List Int
  | [] => []
  | k :: ks => insI k (sortI ks)
theorem perm_insI {k : Int} : ∀ l : List Int, (insI k l).Perm (k :: l)
  | [] => .refl _
  | x :: xs => by
    unfold insI
    split
    · exact .refl _
    · exact ((perm_insI xs).cons x).trans (.swap _ _ _)
theorem perm_sortI : ∀ l : List Int, (sortI l).Perm l
  | [] => .refl _
  | k :: ks => (perm_insI _).trans ((perm_sortI ks).cons k)
theorem pw_insI {k : Int} : ∀ {l : List Int}, l.Pairwise (· ≤ ·) → (insI k l).Pairwise (· ≤ ·)
  | [], _ => by simp [insI]
  | x :: xs, h => by
    obtain ⟨h1, h2⟩ := List.pairwise_cons.mp h
    unfold insI
    split
    · rename_i c
      refine List.pairwise_cons.mpr ⟨fun y hy => ?_, h⟩
      rcases List.mem_cons.mp hy with e | hy
      · rw [e]; exact c
      · exact Int.le_trans c (h1 y hy)
    · refine List.pairwise_cons.mpr ⟨fun y hy => ?_, pw_insI h2⟩
      rcases List.mem_cons.mp ((perm_insI xs).mem_iff.mp hy) with e | hy
      · omega
      · exact h1 y hy
theorem pw_sortI : ∀ l : List Int, (sortI l).Pairwise (· ≤ ·)
  | [] => .nil
  | _ :: ks => pw_insI (pw_sortI ks)
theorem sortI_uniq {l ns : List Int} (h : l.Pairwise (· ≤ ·)) (p : l.Perm ns) : l = sortI ns :=
  List.Perm.eq_of_pairwise (le := fun a b : Int => a ≤ b) (fun a b _ _ h1 h2 => by omega) h (pw_sortI ns) (p.trans (perm_sortI ns).symm)
theorem dqAll_ints {K : PySem.W.Frag} {F : Hp} : ∀ ns : List Int, DqAll K F (ns.map V.int) (ns.map PyData.int)
  | [] => .nil
  | k :: ks => .cons (.int k) (dqAll_ints ks)
/-! ### set(xs) -/
section
variable {X : Cx} {W : WX} {p p2 q pos : Pos} {e : Expr} {fa : M (List Vd)} {f : M Vd}
def rSetL (K : PySem.W.Frag) (w : World) : List V → Hp → VK → Prop := fun vs H Q => ∃ (a : Addr) (ns : List Int), vs = [V.ref a] ∧ (SqL K H a (ns.map V.int) ∨ SqT K H a (ns.map V.int)) ∧ ns.length < 64 ∧
  ∀ (b : Addr) (c : Nat), H b = none → c ≤ ns.length → Q (.ref b) (upd H b (SetO w b (fun j => decide (j ∈ ns)) c))
theorem cr_setL (hc : X.calm = true) : CallR X (.type "set") (rSetL X.K X.w) := by
  intro pins s σ H vs us Q I r h
  obtain ⟨a, ns, rfl, hs, hl, q⟩ := h
  rw [Vals.ref1 r]
  rcases hs with hs | hs
  · obtain ⟨its, rv, pl, _⟩ := I.list hs
    refine setListR ns (I.ok.hd hc) pl.isList (by simpa using rv.ints) (by unfold scanBound; omega) fun h' tk c R hcn k => ?_
    exact ⟨.ref _, upd H s.heap.objs.size (SetO X.w s.heap.objs.size (fun j => decide (j ∈ ns)) c), I.laid (t' := tk) (fun b u e => k b u e) (Nat.le_refl _) (setO_new R), rfl, q _ c (I.hok.fresh (Nat.le_refl _)) hcn⟩
  · obtain ⟨its, rv, pt, _⟩ := I.tuple hs
    refine call_set_tupI ns (I.ok.hd hc) (show s.heap.IsTuple a its.toArray from pt) (by simpa using rv.ints) (by unfold scanBound; omega) fun h' tk c R hcn k => ?_
    exact ⟨.ref _, upd H s.heap.objs.size (SetO X.w s.heap.objs.size (fun j => decide (j ∈ ns)) c), I.laid (t' := tk) (fun b u e => k b u e) (Nat.le_refl _) (setO_new R), rfl, q _ c (I.hok.fresh (Nat.le_refl _)) hcn⟩
def sz64 (n : Nat) : Bool := Nat.blt n 64
/-- sorted(set(xs)) -/
def nSortSet (f : M Vd) : M (List D) := fun env => (f env).bnd fun x e => match (rd e x).bind seqOf with
  | some ds => (match intsOf ds with
    | some ns => if sz64 ns.length = true then .ok ((sortU ns).map PyData.int) e else .bad
    | none => .bad)
  | none => .bad
theorem seq_tp {K : PySem.W.Frag} {F H : Hp} (l : Le F H) {v : V} {d : D} {ds : List D} (t : Tp K F H v d) (h : seqOf d = some ds) : ∃ a vs, v = .ref a ∧ (SqL K H a vs ∨ SqT K H a vs) ∧ DqAll K F vs ds := by
  cases t with
  | @lst a vs es h1 h2 => cases (show some es = some ds from h); exact ⟨a, vs, rfl, .inl (SqL.of h1), h2⟩
  | @tup a vs es h1 h2 => cases (show some es = some ds from h); exact ⟨a, vs, rfl, .inr (l.sqT h1), h2⟩
  | _ => cases h
theorem jn_sortSet (hc : X.calm = true) (hg : Gl X "sorted") (hm : X.mg "sorted" = none) (hg2 : Gl X "set") (hm2 : X.mg "set" = none) (ha : JE X W e f)
    (he : starEach [e] X.env = (false, eval e X.env) :: starEach [] X.env := by rfl) : JN X W (.Call (.Name "sorted" p) [.Call (.Name "set" p2) [e] [] q] [] pos) (nSortSet f) := by
  have h1 := pe_callTy (cr_setL hc) hg2 hm2 boot_set (pa_cons ha pa_nil he) (p := p2) (pos := q) (by decide) (by decide) he rfl
  refine PE.imp (pe_callB (cr_sortedSet hc) hg hm boot_sorted (pa_cons h1 pa_nil rfl) (by decide) (by decide) rfl rfl) fun σ H Q h => ?_
  obtain ⟨B, F, env, S, h⟩ := h
  refine tE_in S .refl h.bnd fun x e1 v H1 F1 l1 S1 r1 h1 => ?_
  cases q1 : (rd e1 x).bind seqOf with
  | none => rw [q1] at h1; exact h1.elim
  | some ds =>
    rw [q1] at h1
    simp only at h1
    cases q2 : intsOf ds with
    | none => rw [q2] at h1; exact h1.elim
    | some ns =>
      rw [q2] at h1
      simp only at h1
      split at h1
      · rename_i hz
        have hz := Nat.blt_eq.mp hz
        cases q3 : rd e1 x with
        | none => rw [q3] at q1; cases q1
        | some d =>
          rw [q3] at q1
          obtain ⟨a, vs, rfl, sq, dq⟩ := seq_tp S1.fh (S1.tp r1 q3) (show seqOf d = some ds from q1)
          rw [ints_dq dq q2] at sq
          refine ⟨a, ns, rfl, sq, hz, fun b c hb hcn => ?_⟩
          refine ⟨b, fun j => decide (j ∈ ns), c, rfl, upd_same, by omega, fun ns' p' h3 h4 _ h6 => ?_⟩
          have e5 : ns' = sortU ns := sortU_uniq h3 fun k => (h4 k).trans decide_eq_true_iff
          subst e5
          obtain ⟨S3, fr⟩ := (S1.beside hb).fresh h6 (dqAll_ints (K := X.K) (F := F1) (sortU ns))
          exact h1 p' _ F1 l1 S3 fr
      · exact h1.elim
/-- len(set(xs)), ints -/
theorem setR_len {w : World} {h : Heap} {a : Addr} {ns : List Int} {n : Nat} (R : SetR w h a (fun j => decide (j ∈ ns)) n) : n = (sortU ns).length := by
  obtain ⟨o, es, ep, t, _, _, _, _, nd, m, _, _, e, _⟩ := R
  rw [← e, ← Array.length_toList, ← List.length_map (f := keyOf)]
  exact List.Perm.length_eq ((List.perm_ext_iff_of_nodup nd (pw_nodup (pw_sortU ns))).mpr fun k => ((m k).symm.trans decide_eq_true_iff).trans mem_sortU.symm)
def rLenSet (w : World) : List V → Hp → VK → Prop := fun vs H Q => ∃ (a : Addr) (ns : List Int) (n : Nat), vs = [V.ref a] ∧ H a = some (SetO w a (fun j => decide (j ∈ ns)) n) ∧ Q (.int (sortU ns).length) H
theorem cr_lenSet : CallR X (.builtin "len") (rLenSet X.w) := by
  intro pins s σ H vs us Q I r h
  obtain ⟨a, ns, n, rfl, ha, q⟩ := h
  have R := setO_get I ha
  have e := setR_len R
  rw [Vals.ref1 r]
  obtain ⟨o, es, ep, t, ho, hex, hd, _, _, _, hb, hf, hn, _⟩ := R
  exact call_len_set ho hex hd hf (by unfold scanBound at hb; omega) ⟨.int (sortU ns).length, H, I.tok _, ⟨_, by rw [hn, e]⟩, q⟩
def eLenSet (f : M Vd) : M Vd := fun env => (f env).bnd fun x e => match (rd e x).bind seqOf with
  | some ds => (match intsOf ds with
    | some ns => if sz64 ns.length = true then .ok (.dat (.int (sortU ns).length)) e else .bad
    | none => .bad)
  | none => .bad
theorem je_lenSet (hc : X.calm = true) (hg : Gl X "len") (hm : X.mg "len" = none) (hg2 : Gl X "set") (hm2 : X.mg "set" = none) (ha : JE X W e f)
    (he : starEach [e] X.env = (false, eval e X.env) :: starEach [] X.env := by rfl) : JE X W (.Call (.Name "len" p) [.Call (.Name "set" p2) [e] [] q] [] pos) (eLenSet f) := by
  have h1 := pe_callTy (cr_setL hc) hg2 hm2 boot_set (pa_cons ha pa_nil he) (p := p2) (pos := q) (by decide) (by decide) he rfl
  refine PE.imp (pe_callB cr_lenSet hg hm boot_len (pa_cons h1 pa_nil rfl) (by decide) (by decide) rfl rfl) fun σ H Q h => ?_
  obtain ⟨B, F, env, S, h⟩ := h
  refine tE_in S .refl h.bnd fun x e1 v H1 F1 l1 S1 r1 h1 => ?_
  cases q1 : (rd e1 x).bind seqOf with
  | none => rw [q1] at h1; exact h1.elim
  | some ds =>
    rw [q1] at h1
    simp only at h1
    cases q2 : intsOf ds with
    | none => rw [q2] at h1; exact h1.elim
    | some ns =>
      rw [q2] at h1
      simp only at h1
      split at h1
      · rename_i hz
        have hz := Nat.blt_eq.mp hz
        cases q3 : rd e1 x with
        | none => rw [q3] at q1; cases q1
        | some d =>
          rw [q3] at q1
          obtain ⟨a, vs, rfl, sq, dq⟩ := seq_tp S1.fh (S1.tp r1 q3) (show seqOf d = some ds from q1)
          rw [ints_dq dq q2] at sq
          refine ⟨a, ns, rfl, sq, hz, fun b c hb hcn => ?_⟩
          refine ⟨b, ns, c, rfl, upd_same, ?_⟩
          exact h1 _ _ F1 l1 (S1.beside hb) (.int _)
      · exact h1.elim
/-! ### sorted(xs) -/
def nSortI (f : M Vd) : M (List D) := fun env => (f env).bnd fun x e => match rd e x with
  | some (.list ds) => (match intsOf ds with
    | some ns => .ok ((sortI ns).map PyData.int) e
    | none => .bad)
  | _ => .bad
theorem jn_sortI (hg : Gl X "sorted") (hm : X.mg "sorted" = none) (ha : JE X W e f) (he : starEach [e] X.env = (false, eval e X.env) :: starEach [] X.env := by rfl) (hpl : (backTo pos (starEach [] X.env)).any (·.1) = false := by rfl) :
    JN X W (.Call (.Name "sorted" p) [e] [] pos) (nSortI f) := by
  refine PE.imp (pe_callB cr_sortedI hg hm boot_sorted (pa_cons ha pa_nil he) (by decide) (by decide) he hpl) fun σ H Q h => ?_
  obtain ⟨B, F, env, S, h⟩ := h
  refine tE_in S .refl h.bnd fun x e1 v H1 F1 l1 S1 r1 h1 => ?_
  cases q3 : rd e1 x with
  | none => rw [q3] at h1; exact h1.elim
  | some d =>
    have t := S1.tp r1 q3
    cases t with
    | @lst a vs ds g1 g2 =>
      rw [q3] at h1
      simp only at h1
      cases q2 : intsOf ds with
      | none => rw [q2] at h1; exact h1.elim
      | some ns =>
        rw [q2] at h1
        simp only at h1
        rw [ints_dq g2 q2] at g1
        refine ⟨a, ns, rfl, SqL.of g1, fun ns' p' h3 h4 h6 => ?_⟩
        have e5 := sortI_uniq h4 h3
        subst e5
        obtain ⟨S3, fr⟩ := S1.fresh h6 (dqAll_ints (K := X.K) (F := F1) (sortI ns))
        exact h1 p' _ F1 l1 S3 fr
    | _ => rw [q3] at h1; exact h1.elim
end
/-! ### max(xs), a list or a tuple of ints -/
open PySem.W (maxOf max_tuple_datum HoldAll DatumOrd)
section
variable {X : Cx} {K : PySem.W.Frag}
theorem maxOf_I : ∀ (l : List Int) (a : Int), maxOf a l = maxI a l
  | [], _ => rfl
  | b :: l, a => by
    have e : (DatumOrd.lt a b = true) = (a < b) := by
      show (decide (a < b) = true) = (a < b)
      exact decide_eq_true_eq
    show maxOf (if DatumOrd.lt a b = true then b else a) l = maxI (if a < b then b else a) l
    rw [maxOf_I l]
    congr 1
    by_cases h : a < b
    · rw [if_pos h, if_pos (e ▸ h)]
    · rw [if_neg h, if_neg (fun z => h (e ▸ z))]
def rMaxT (K : PySem.W.Frag) : List V → Hp → VK → Prop := fun vs H Q => ∃ (a : Addr) (n : Int) (ns : List Int), vs = [V.ref a] ∧ SqT K H a ((n :: ns).map V.int) ∧ Q (.int (maxI n ns)) H
theorem cr_maxT (hc : X.calm = true) (hu : X.A.units + 65 < cLine) : CallR X (.builtin "max") (rMaxT X.K) := by
  intro pins s σ H vs us Q I r h
  obtain ⟨a, n, ns, rfl, hs, q⟩ := h
  obtain ⟨its, rv, pt, _⟩ := I.tuple hs
  rw [Vals.ref1 r]
  refine max_tuple_datum (α := Int) (x := n) (xs := ns) (I.ok.hd hc) (show s.heap.IsTuple a its.toArray from pt) (HoldAll.of_ints (by simpa using rv.ints)) (by show X.A.units + 1 + 0 < cLine; omega) fun i v h' tk hi hv hk => ?_
  obtain ⟨as, rd⟩ := hv
  rw [maxOf_I] at rd
  cases rd with
  | int _ t => exact ⟨.int (maxI n ns), H, I.kept hk, ⟨t, rfl⟩, q⟩
def gMax2 : List D → Option D
  | [.list ds] => gMax [.list ds]
  | [.tuple ds] => (match intsOf ds with
    | some (a :: l) => some (.int (maxI a l))
    | _ => none)
  | _ => none
abbrev rMax2 (K : PySem.W.Frag) : List V → Hp → VK → Prop := fun vs H Q => rMax K vs H Q ∨ rMaxT K vs H Q
theorem c_max2 (hc : X.calm = true) (hu : X.A.units + 65 < cLine) : CallR X (.builtin "max") (rMax2 X.K) := (cr_max hc).or (cr_maxT hc hu)
theorem d_max2 : RDC K (rMax2 K) gMax2 := by
  intro F H vs as d l t e Q k
  cases t with
  | nil => cases e
  | cons t ts =>
    cases ts with
    | cons _ _ => cases t <;> cases e
    | nil =>
      cases t with
      | @lst p xs ds h1 h2 => exact .inl (d_max F H _ _ d l (.cons (.lst h1 h2) .nil) e Q k)
      | @tup p xs ds h1 h2 =>
        unfold gMax2 at e
        simp only at e
        split at e
        · rename_i a l' q
          cases e
          have hv := ints_dq h2 q
          subst hv
          exact .inr ⟨p, a, l', rfl, l.sqT h1, k _ H (.same (.int _))⟩
        · cases e
      | _ => cases e
end
end Pf
namespace Pf
open PySem PySem.Spec PyProof.Rows L2
/-! ### dicts whose keys are ints and texts -/
def keyD : D → Option Key
  | .int i => some (.inl i)
  | .str x => some (.inr x)
  | _ => none
section
variable {κ : Type} [DecidableEq κ]
def valD : List (κ × D) → κ → Option D
  | [], _ => none
  | p :: r, k => if p.1 = k then some p.2 else valD r k
def hasD : List (κ × D) → κ → Bool
  | [], _ => false
  | p :: r, k => if p.1 = k then true else hasD r k
def putD (kvs : List (κ × D)) (k : κ) (d : D) : List (κ × D) :=
  if hasD kvs k = true then kvs.map (fun kv => if kv.1 = k then (kv.1, d) else kv) else kvs ++ [(k, d)]
theorem KvR.has {K : PySem.W.Frag} {F : Hp} (k : κ) : ∀ {vs : List (κ × V)} {kvs : List (κ × D)}, KvR K F vs kvs → (vs.any fun kv => decide (kv.1 = k)) = hasD kvs k
  | _, _, .nil => rfl
  | _, _, .cons (a := p) (b := q) h t => by
    unfold hasD
    rw [List.any_cons, KvR.has k t, h.1]
    by_cases e : q.1 = k
    · simp [e]
    · simp [e]
theorem KvR.rep {K : PySem.W.Frag} {F : Hp} (k : κ) {v : V} {d : D} (hv : Dq K F v d) : ∀ {vs : List (κ × V)} {kvs : List (κ × D)}, KvR K F vs kvs → KvR K F (vs.map fun kv => if kv.1 = k then (kv.1, v) else kv) (kvs.map fun kv => if kv.1 = k then (kv.1, d) else kv)
  | _, _, .nil => .nil
  | _, _, .cons (a := p) (b := q) h t => by
    rw [List.map_cons, List.map_cons]
    refine .cons ?_ (KvR.rep k hv t)
    by_cases e : q.1 = k
    · rw [if_pos e, if_pos (h.1.trans e)]; exact ⟨h.1, hv⟩
    · rw [if_neg e, if_neg (fun z => e (h.1.symm.trans z))]; exact h
theorem KvR.put {K : PySem.W.Frag} {F : Hp} (k : κ) {v : V} {d : D} (hv : Dq K F v d) {vs : List (κ × V)} {kvs : List (κ × D)} (h : KvR K F vs kvs) : KvR K F (putK vs k v) (putD kvs k d) := by
  unfold putK putD
  rw [h.has k]
  split
  · exact h.rep k hv
  · exact Paired.snoc h ⟨rfl, hv⟩
theorem KvR.val {K : PySem.W.Frag} {F : Hp} (k : κ) : ∀ {vs : List (κ × V)} {kvs : List (κ × D)} {d : D}, KvR K F vs kvs → valD kvs k = some d → ∃ v, valV vs k = some v ∧ Dq K F v d
  | _, _, _, .nil, e => by cases e
  | _, _, d, .cons (a := p) (b := q) h t, e => by
    unfold valD at e
    by_cases z : q.1 = k
    · rw [if_pos z] at e
      cases e
      exact ⟨p.2, valV_pos (h.1.trans z), h.2⟩
    · rw [if_neg z] at e
      obtain ⟨v, e1, e2⟩ := KvR.val k t e
      exact ⟨v, by rw [valV_neg (fun y => z (h.1.symm.trans y))]; exact e1, e2⟩
theorem KvR.non {K : PySem.W.Frag} {F : Hp} (k : κ) : ∀ {vs : List (κ × V)} {kvs : List (κ × D)}, KvR K F vs kvs → valD kvs k = none → valV vs k = none
  | _, _, .nil, _ => rfl
  | _, _, .cons (a := p) (b := q) h t, e => by
    unfold valD at e
    by_cases z : q.1 = k
    · rw [if_pos z] at e; cases e
    · rw [if_neg z] at e
      rw [valV_neg (fun y => z (h.1.symm.trans y))]
      exact KvR.non k t e
theorem KvR.is {K : PySem.W.Frag} {F : Hp} (k : κ) {vs : List (κ × V)} {kvs : List (κ × D)} (h : KvR K F vs kvs) : (valV vs k).isSome = hasD kvs k := by
  rw [← valV_any, h.has k]
theorem KvR.len {K : PySem.W.Frag} {F : Hp} : ∀ {vs : List (κ × V)} {kvs : List (κ × D)}, KvR K F vs kvs → vs.length = kvs.length
  | _, _, .nil => rfl
  | _, _, .cons _ t => by simp [KvR.len t]
end
def keyV : Key → D
  | .inl n => .int n
  | .inr x => .str x
theorem keyV_dq {K : PySem.W.Frag} {F : Hp} (k : Key) : Dq K F (kV k) (keyV k) := by
  cases k with
  | inl n => exact .int n
  | inr x => exact .str x
theorem KvR.keysV {K : PySem.W.Frag} {F : Hp} : ∀ {vs : List (Key × V)} {kvs : List (Key × D)}, KvR K F vs kvs → DqAll K F (vs.map fun kv => kV kv.1) (kvs.map fun kv => keyV kv.1)
  | _, _, .nil => .nil
  | _, _, .cons h t => by
    rw [List.map_cons, List.map_cons, h.1]
    exact .cons (keyV_dq _) (KvR.keysV t)
theorem key_tp {K : PySem.W.Frag} {F H : Hp} {v : V} {d : D} {k : Key} (t : Tp K F H v d) (e : keyD d = some k) : v = kV k := by
  cases t <;> cases e <;> rfl
section
variable {K : PySem.W.Frag} {B : Bs} {F : Hp} {env : En} {σ : L2.St} {H : Hp}
theorem SR.ob (S : SR K B F env σ H) {i : Nat} {b : Bool} {o : Ob} (h : env[i]? = some (.ob b o)) : ∃ a, σ[i]? = some (some (.ref a)) ∧ ObR K F H a o ∧ (∀ x, Ft H a o x → F x = none ∧ B.H0 x = none) ∧ (b = true → a = B.u) := by
  obtain ⟨v, h1, a, rfl, h2⟩ := S.sl i _ h
  exact ⟨a, h1, h2⟩
/-- the dict of a slot is changed -/
theorem SR.mutD (S : SR K B F env σ H) {i : Nat} {a : Addr} {b : Bool} {o o' : Ob} {u : HO} (hi : env[i]? = some (.ob b o)) (hv : σ[i]? = some (some (.ref a))) (k : ∀ H x, Ft H a o' x → x = a) (w : ObR K F (upd H a u) a o') : SR K B F (env.set i (.ob b o')) σ (upd H a u) := by
  obtain ⟨a', h1, h2, h3, h4⟩ := S.ob hi
  rw [hv] at h1
  cases h1
  obtain ⟨h5, h6⟩ := h3 a (.inl rfl)
  have no : ∀ (j : Nat) (s : Sl) (v : Option V) (x : Addr), i ≠ j → env[j]? = some s → σ[j]? = some v → Foot H s v x → x ≠ a := fun j s v x ne hj hw f z => by
    subst z
    exact S.own i j _ s _ v x ne hi hj hv hw ⟨x, rfl, .inl rfl⟩ f
  refine S.put i (fun c o e => ?_) .refl (S.fh.updr h5) S.new rfl (fun _ _ => rfl) (fun j s v x ne hj hw f => ⟨upd_ne (no j s v x ne hj hw f), (S.foot hj hw f).2.1⟩) fun _ => ⟨_, hv, ⟨a, rfl, w, fun x f => ?_, h4⟩, fun x f j s v ne hj hw f' => ?_⟩
  · rw [upd_ne (ne_of_none e h6)]; exact S.same c o e
  · rw [k _ x f]; exact ⟨h5, h6⟩
  · obtain ⟨a2, e, f⟩ := f
    cases e
    exact no j s v x ne hj hw f' (k _ x f)
/-- a dict that is nobody's goes to a slot -/
theorem SR.setD' (S : SR K B F env σ H) {p : Addr} {u : HO} {o : Ob} (i : Nat) (nF : F p = none) (nH : B.H0 p = none) (ns : NoFt env σ H p) (k : ∀ H x, Ft H p o x → x = p) (w : ObR K F (upd H p u) p o) : SR K B F (env.set i (.ob false o)) (σ.set i (some (.ref p))) (upd H p u) := by
  have S1 := S.other (o := u) nF nH ns
  refine S1.put i S1.same .refl S1.fh S1.new (by rw [List.length_set]) (fun j ne => List.getElem?_set_ne ne) (fun j s w x _ hj hv f => ⟨rfl, (S1.foot hj hv f).2.1⟩)
    fun q => ⟨some (.ref p), by rw [List.getElem?_set_self (by rw [S.len]; exact q)], ⟨p, rfl, w, fun x f => ?_, fun z => nomatch z⟩, fun x f j s v _ hj hv => ?_⟩
  · rw [k _ x f]; exact ⟨nF, nH⟩
  · obtain ⟨a2, e, f⟩ := f
    cases e
    rw [k _ x f]
    exact ns.upd j s v hj hv
/-- a new dict goes to a slot -/
theorem SR.setD (S : SR K B F env σ H) {p : Addr} {u : HO} {o : Ob} (i : Nat) (n : H p = none) (k : ∀ H x, Ft H p o x → x = p) (w : ObR K F (upd H p u) p o) : SR K B F (env.set i (.ob false o)) (σ.set i (some (.ref p))) (upd H p u) :=
  S.setD' i (S.fh.none n) (S.same.none n) (S.noFt n) k w
theorem upd_self {H : Hp} {p : Addr} {u : HO} (h : H p = some u) : upd H p u = H := by
  funext b
  by_cases z : b = p
  · subst z; rw [upd_same, h]
  · rw [upd_ne z]
end
theorem ft_dk {H : Hp} {a x : Addr} {kvs : List (Key × D)} (h : Ft H a (.dk kvs) x) : x = a := h.elim id fun z => z.elim
theorem ft_dt {H : Hp} {a x : Addr} {kvs : List (List Key × D)} (h : Ft H a (.dt kvs) x) : x = a := h.elim id fun z => z.elim
/-! ### combinators -/
def dkAt (e : En) (i : Nat) : Option (List (Key × D)) := match e[i]? with
  | some (.ob _ (.dk kvs)) => some kvs
  | _ => none
theorem SR.dk {K : PySem.W.Frag} {B : Bs} {F : Hp} {env : En} {σ : L2.St} {H : Hp} (S : SR K B F env σ H) {i : Nat} {kvs : List (Key × D)} (h : dkAt env i = some kvs) : ∃ b a vs, env[i]? = some (.ob b (.dk kvs)) ∧ σ[i]? = some (some (.ref a)) ∧ H a = some (.dK vs) ∧ KvR K F vs kvs := by
  unfold dkAt at h
  split at h
  · rename_i b kvs' q
    cases h
    obtain ⟨a, h1, ⟨vs, h2, h3⟩, _⟩ := S.ob q
    exact ⟨b, a, vs, q, h1, h2, h3⟩
  · cases h
def isOb (e : En) (i : Nat) : Bool := match e[i]? with
  | some (.ob _ _) => true
  | _ => false
theorem SR.isOb {K : PySem.W.Frag} {B : Bs} {F : Hp} {env : En} {σ : L2.St} {H : Hp} (S : SR K B F env σ H) {i : Nat} (h : isOb env i = true) : ∃ a, σ[i]? = some (some (.ref a)) := by
  unfold Pf.isOb at h
  split at h
  · rename_i b o q
    obtain ⟨a, h1, _⟩ := S.ob q
    exact ⟨a, h1⟩
  · cases h
def sDNew (i : Nat) : En → O := fun e => .nx (e.set i (.ob false (.dk [])))
def szD (n : Nat) : Bool := Nat.blt n 10000
/-- x[k] = v -/
def putAtD (i : Nat) (k : Option Key) (d : D) (e : En) : O := match k, e[i]? with
  | some k, some (.ob b (.dk kvs)) => if szD kvs.length = true then .nx (e.set i (.ob b (.dk (putD kvs k d)))) else .bad
  | _, _ => .bad
def sDPut (i : Nat) (fk fv : M Vd) : En → O := fun env => (fv env).o fun x e => (fz x e).o fun d e => if isOb e i = true then (fk e).o fun y e => putAtD i ((rd e y).bind keyD) d e else .bad
def getAtD (i : Nat) (k : Option Key) (e : En) : R Vd := match k, dkAt e i with
  | some k, some kvs => (match valD kvs k with
    | some d => .ok (.dat d) e
    | none => .bad)
  | _, _ => .bad
def eDGet (i : Nat) (fk : M Vd) : M Vd := fun env => if isOb env i = true then (fk env).bnd fun y e => getAtD i ((rd e y).bind keyD) e else .bad
def inAtD (neg : Bool) (k : Option Key) (e : En) (i : Nat) : R Vd := match k, dkAt e i with
  | some k, some kvs => .ok (.dat (.bool (if neg = true then !hasD kvs k else hasD kvs k))) e
  | _, _ => .bad
def eDIn (neg : Bool) (i : Nat) (fk : M Vd) : M Vd := fun env => (fk env).bnd fun y e => if isOb e i = true then inAtD neg ((rd e y).bind keyD) e i else .bad
def eDLen (i : Nat) : M Vd := fun e => match dkAt e i with
  | some kvs => .ok (.dat (.int kvs.length)) e
  | none => .bad
def nDList (i : Nat) : M (List D) := fun e => match dkAt e i with
  | some kvs => .ok (kvs.map fun kv => keyV kv.1) e
  | none => .bad
def intKeys : List (Key × D) → Option (List Int)
  | [] => some []
  | (.inl n, _) :: r => (intKeys r).map (n :: ·)
  | (.inr _, _) :: _ => none
/-! ### rules -/
section
variable {X : Cx} {W : WX} {i : Nat} {x : Str} {a b c : Expr} {fk fv fd : M Vd} {pos p p2 tp : Pos}
theorem js_dnew {pos' : Pos} (hN : X.N.Nodup) (hi : X.N[i]? = some x) (hx : Loc X.env.scope x) (hs : swapsWith (.Dict [] [] p) (some (.Name x pos')) pos.line X.env = pure false := by rfl) (hf : X.fn x = true ∨ X.env.scope.names.lookup x = some .local := by first | exact .inl rfl | exact .inr rfl | assumption) :
    JS X W (.Assign [.Name x pos'] (.Dict [] [] p) pos) (sDNew i) := by
  refine PS.imp (ps_set hN hi hx pe_dnewK hs hf) fun D σ H h => ?_
  obtain ⟨B, F, env, S, h⟩ := h
  intro q n
  exact h _ _ F .refl (S.setD i n (fun _ _ => ft_dk) ⟨[], upd_same, .nil⟩)
theorem var_ob {K : PySem.W.Frag} {B : Bs} {F : Hp} {env : En} {σ : L2.St} {H : Hp} {Q : VK} (S : SR K B F env σ H) (h : isOb env i = true) (k : ∀ a, σ[i]? = some (some (.ref a)) → Q (.ref a) H) : tVar i σ H Q := by
  obtain ⟨a, e⟩ := S.isOb h
  exact ⟨_, e, k a e⟩
theorem key_at {K : PySem.W.Frag} {B : Bs} {F : Hp} {env : En} {σ : L2.St} {H : Hp} (S : SR K B F env σ H) {y : Vd} {v : V} {k : Key} (r : VR K F σ v y) (e : (rd env y).bind keyD = some k) : v = kV k := by
  cases q : rd env y with
  | none => rw [q] at e; cases e
  | some d => rw [q] at e; exact key_tp (S.tp r q) e
theorem js_dput (hu : X.A.units + 65 < cLine) (hN : X.N[i]? = some x) (hv : Vis X.env.scope x) (hk : JE X W a fk) (he : JE X W b fv) (hd : (x == ("__debug__" : Str)) = false := by decide) (hcd : (x == ("__classdict__" : Str)) = false := by decide)
    (hs : swapsWith b (some (.Subscript (.Name x p) a tp)) pos.line X.env = pure false := by rfl) : JS X W (.Assign [.Subscript (.Name x p) a tp] b pos) (sDPut i fk fv) := by
  refine PS.imp (ps_dput (by omega) (pe_var hN hv hd hcd) hk he hs) fun D σ H h => ?_
  obtain ⟨B, F, env, S, h⟩ := h
  refine tE_in S .refl h.r fun y e1 v H1 F1 l1 S1 r1 h1 => ?_
  refine fz_in S1 r1 h1 fun d e2 F2 l2 S2 z2 h2 => ?_
  split at h2
  · rename_i ho
    refine var_ob S2 ho fun ad hσ => ?_
    refine tE_in S2 (l1.trans l2) h2.r fun k e3 kv H3 F3 l3 S3 r3 h3 => ?_
    unfold putAtD at h3
    split at h3
    · rename_i kk bb kvs q1 q2
      split at h3
      · rename_i hz
        have hz : kvs.length < 10000 := Nat.blt_eq.mp hz
        obtain ⟨a', g1, ⟨vs, g2, g3⟩, _⟩ := S3.ob q2
        rw [hσ] at g1
        cases g1
        have ek := key_at S3 r3 q1
        subst ek
        have gl := g3.len
        refine ⟨ad, _, rfl, DPut.k g2 (by rw [gl, sizeLine_eq]; omega), ?_⟩
        have z3 := l3.dq z2
        exact h3 _ _ F3 ((l1.trans l2).trans l3) (S3.mutD q2 hσ (fun _ _ => ft_dk) ⟨_, upd_same, g3.put kk z3⟩)
      · exact h3.elim
    · exact h3.elim
  · exact h2.elim
theorem je_dget (hu : X.A.units + 65 < cLine) (hN : X.N[i]? = some x) (hv : Vis X.env.scope x) (hk : JE X W a fk) (hd : (x == ("__debug__" : Str)) = false := by decide) (hcd : (x == ("__classdict__" : Str)) = false := by decide)
    (hs : NoSl a := by exact fun _ _ => rfl) : JE X W (.Subscript (.Name x p) a pos) (eDGet i fk) := by
  refine PE.imp (pe_dget (by omega) (pe_var hN hv hd hcd) hk hs) fun σ H Q h => ?_
  obtain ⟨B, F, env, S, h⟩ := h
  unfold eDGet at h
  split at h
  · rename_i ho
    refine var_ob S ho fun ad hσ => ?_
    refine tE_in S .refl h.bnd fun k e1 kv H1 F1 l1 S1 r1 h1 => ?_
    unfold getAtD at h1
    split at h1
    · rename_i kk kvs q1 q2
      obtain ⟨bb, a', vs, g0, g1, g2, g3⟩ := S1.dk q2
      rw [hσ] at g1
      cases g1
      have ek := key_at S1 r1 q1
      subst ek
      cases q3 : valD kvs kk with
      | none => rw [q3] at h1; exact h1.elim
      | some d =>
        rw [q3] at h1
        obtain ⟨v, e3, z3⟩ := g3.val kk q3
        refine ⟨ad, v, rfl, ?_, h1 v H1 F1 l1 S1 z3⟩
        have := DGet.k (k := kk) g2
        rw [e3] at this
        exact this
    · exact h1.elim
  · exact h.elim
theorem run_din {neg : Bool} {σ : L2.St} {H : Hp} {Q : VK} (h : tE X.K W (eDIn neg i fk) σ H Q) : tE X.K W fk σ H fun y H1 => tVar i σ H1 fun z H2 => ∃ a o, z = .ref a ∧ DGet H2 a y o ∧ Q (.bl (if neg = true then !o.isSome else o.isSome)) H2 := by
  obtain ⟨B, F, env, S, h⟩ := h
  refine tE_in S .refl h.bnd fun y e1 v H1 F1 l1 S1 r1 h1 => ?_
  split at h1
  · rename_i ho
    refine var_ob S1 ho fun ad hσ => ?_
    unfold inAtD at h1
    split at h1
    · rename_i kk kvs q1 q2
      obtain ⟨bb, a', vs, g0, g1, g2, g3⟩ := S1.dk q2
      rw [hσ] at g1
      cases g1
      have ek := key_at S1 r1 q1
      subst ek
      refine ⟨ad, _, rfl, DGet.k (k := kk) g2, ?_⟩
      rw [g3.is kk]
      exact h1 _ H1 F1 l1 S1 (.bl _)
    · exact h1.elim
  · exact h1.elim
theorem je_din (hu : X.A.units + 65 < cLine) (hN : X.N[i]? = some x) (hv : Vis X.env.scope x) (hk : JE X W a fk) (hd : (x == ("__debug__" : Str)) = false := by decide) (hcd : (x == ("__classdict__" : Str)) = false := by decide)
    (hm : behindInMarks .In (.Name x p) = false := by rfl) : JE X W (.Compare a [.In] [.Name x p] pos) (eDIn false i fk) :=
  PE.imp (pe_cmp (pc_din (by omega) hk (pe_var hN hv hd hcd)) hm) fun _ _ _ h => run_din h
theorem je_dnotin (hu : X.A.units + 65 < cLine) (hN : X.N[i]? = some x) (hv : Vis X.env.scope x) (hk : JE X W a fk) (hd : (x == ("__debug__" : Str)) = false := by decide) (hcd : (x == ("__classdict__" : Str)) = false := by decide)
    (hm : behindInMarks .NotIn (.Name x p) = false := by rfl) : JE X W (.Compare a [.NotIn] [.Name x p] pos) (eDIn true i fk) :=
  PE.imp (pe_cmp (pc_dnotin (by omega) hk (pe_var hN hv hd hcd)) hm) fun _ _ _ h => run_din h
theorem jt_din (hu : X.A.units + 65 < cLine) (hN : X.N[i]? = some x) (hv : Vis X.env.scope x) (hk : JE X W a fk) (hd : (x == ("__debug__" : Str)) = false := by decide) (hcd : (x == ("__classdict__" : Str)) = false := by decide)
    (hm : behindInMarks .In (.Name x p) = false := by rfl) : JT X W (.Compare a [.In] [.Name x p] pos) (bT (eDIn false i fk)) :=
  PT.imp (pt_cmp (pc_din (by omega) hk (pe_var hN hv hd hcd)) hm) fun _ _ _ h => run_din (toT h)
theorem jt_dnotin (hu : X.A.units + 65 < cLine) (hN : X.N[i]? = some x) (hv : Vis X.env.scope x) (hk : JE X W a fk) (hd : (x == ("__debug__" : Str)) = false := by decide) (hcd : (x == ("__classdict__" : Str)) = false := by decide)
    (hm : behindInMarks .NotIn (.Name x p) = false := by rfl) : JT X W (.Compare a [.NotIn] [.Name x p] pos) (bT (eDIn true i fk)) :=
  PT.imp (pt_cmp (pc_dnotin (by omega) hk (pe_var hN hv hd hcd)) hm) fun _ _ _ h => run_din (toT h)
theorem je_dlen (hN : X.N[i]? = some x) (hv : Vis X.env.scope x) (hg : Gl X "len") (hm : X.mg "len" = none) (hd : (x == ("__debug__" : Str)) = false := by decide) (hcd : (x == ("__classdict__" : Str)) = false := by decide) :
    JE X W (.Call (.Name "len" p2) [.Name x p] [] pos) (eDLen i) := by
  refine PE.imp (pe_callB call_lenD hg hm boot_len (pa_cons (pe_var hN hv hd hcd) pa_nil rfl) (by decide) (by decide) rfl rfl) fun σ H Q h => ?_
  obtain ⟨B, F, env, S, h⟩ := h
  unfold eDLen at h
  split at h
  · rename_i kvs q
    obtain ⟨bb, ad, vs, g0, g1, g2, g3⟩ := S.dk q
    refine ⟨_, g1, ad, vs, rfl, g2, ?_⟩
    rw [g3.len]
    exact h _ H F .refl S (.int _)
  · exact h.elim
theorem jn_dlist (hcl : X.calm = true) (hN : X.N[i]? = some x) (hv : Vis X.env.scope x) (hg : Gl X "list") (hm : X.mg "list" = none) (hd : (x == ("__debug__" : Str)) = false := by decide) (hcd : (x == ("__classdict__" : Str)) = false := by decide) :
    JN X W (.Call (.Name "list" p2) [.Name x p] [] pos) (nDList i) := by
  refine PE.imp (pe_callTy (call_listD hcl) hg hm boot_list (pa_cons (pe_var hN hv hd hcd) pa_nil rfl) (by decide) (by decide) rfl rfl) fun σ H Q h => ?_
  obtain ⟨B, F, env, S, h⟩ := h
  unfold nDList at h
  split at h
  · rename_i kvs q
    obtain ⟨bb, ad, vs, g0, g1, g2, g3⟩ := S.dk q
    refine ⟨_, g1, ad, vs, rfl, .inl g2, fun q n => ?_⟩
    obtain ⟨S3, fr⟩ := S.fresh n (KvR.keysV g3)
    exact h _ _ F .refl S3 fr
  · exact h.elim
/-- x.get(k, e) -/
def getAtDD (i : Nat) (k : Option Key) (z : D) (e : En) : R Vd := match k, dkAt e i with
  | some k, some kvs => (match valD kvs k with
    | some d => .ok (.dat d) e
    | none => .ok (.dat z) e)
  | _, _ => .bad
def eDGetD (i : Nat) (fk fd : M Vd) : M Vd := fun env => match dkAt env i with
  | some _ => (fk env).bnd fun y e => (match (rd e y).bind keyD with
    | some k => (fd e).bnd fun z e => (fz z e).bnd fun d e => getAtDD i (some k) d e
    | none => .bad)
  | none => .bad
theorem je_dget2 {apos : Pos} (hu : X.A.units + 65 < cLine) (hN : X.N[i]? = some x) (hv : Vis X.env.scope x) (hk : JE X W a fk) (he : JE X W b fd) (m : M2 X (.Name x p) "get" apos a b pos := by exact ⟨rfl, rfl, rfl, rfl⟩) (hd : (x == ("__debug__" : Str)) = false := by decide) (hcd : (x == ("__classdict__" : Str)) = false := by decide) :
    JE X W (.Call (.Attribute (.Name x p) "get" apos) [a, b] [] pos) (eDGetD i fk fd) := by
  refine PE.imp (pe_dget2 (by omega) (pe_var hN hv hd hcd) hk he m) fun σ H Q h => ?_
  obtain ⟨B, F, env, S, h⟩ := h
  unfold eDGetD at h
  split at h
  · rename_i kvs0 q0
    obtain ⟨bb, ad, vs, g0, g1, g2, g3⟩ := S.dk q0
    refine ⟨_, g1, ad, rfl, .inl ⟨vs, .inl g2⟩, ?_⟩
    refine tE_in S .refl h.bnd fun k e1 kv H1 F1 l1 S1 r1 h1 => ?_
    split at h1
    · rename_i kk q1
      have ek := key_at S1 r1 q1
      subst ek
      refine tE_in S1 l1 h1.bnd fun z e2 zv H2 F2 l2 S2 r2 h2 => ?_
      refine fzR_in S2 r2 h2 (fun d e3 F3 l3 S3 z3 h3 => ?_)
      unfold getAtDD at h3
      split at h3
      · rename_i kk' kvs ek' q2
        cases ek'
        obtain ⟨bb2, a2, vs2, k0, k1, k2, k3⟩ := S3.dk q2
        rw [g1] at k1
        cases k1
        refine ⟨_, DGet.k (k := kk) k2, ?_⟩
        cases q3 : valD kvs kk with
        | none =>
          rw [q3] at h3
          rw [k3.non kk q3]
          exact h3 _ H2 F3 ((l1.trans l2).trans l3) S3 z3
        | some d' =>
          rw [q3] at h3
          obtain ⟨v, e5, z5⟩ := k3.val kk q3
          rw [e5]
          exact h3 _ H2 F3 ((l1.trans l2).trans l3) S3 z5
      · exact h3.elim
    · exact h1.elim
  · exact h.elim
/-- x, y = {}, e -/
def sParD (i j : Nat) (f2 : M Vd) : En → O := fun env => (f2 env).o fun x e => (fz x e).o fun d e => .nx ((e.set i (.ob false (.dk []))).set j (.va d))
theorem js_parD {j : Nat} {y : Str} {f2 : M Vd} {px py pt : Pos} {kt k2 pt2} (hc : X.calm = true) (hN : X.N.Nodup) (hi : X.N[i]? = some x) (hj : X.N[j]? = some y) (hij : i ≠ j)
    (hx : X.env.scope.names.lookup x = some .local) (hy : X.env.scope.names.lookup y = some .local) (h2 : JE X W b f2)
    (hw : swappedStores [.Tuple [.Name x px, .Name y py] kt pt] (.Tuple [.Dict [] [] p, b] k2 pt2) X.env = pure (some [x, y])) (hs : swapsWithSole [.Tuple [.Name x px, .Name y py] kt pt] (.Tuple [.Dict [] [] p, b] k2 pt2) pos.line X.env = pure false := by rfl)
    (s2 : starEach [b] X.env = (false, eval b X.env) :: starEach [] X.env := by rfl) : JS X W (.Assign [.Tuple [.Name x px, .Name y py] kt pt] (.Tuple [.Dict [] [] p, b] k2 pt2) pos) (sParD i j f2) := by
  refine PS.imp (ps_par hc hN hi hj hij hx hy (pa_cons pe_dnewK (pa_cons h2 pa_nil s2) rfl) hw hs) fun D σ H h => ?_
  obtain ⟨B, F, env, S, h⟩ := h
  intro q n
  have nF := S.fh.none n
  have nH := S.same.none n
  have S1 := (S.beside (o := .dK []) n).addH upd_same nF (S.noFt n).upd
  have n0 : B.F0 q = none := S.f0.none nF
  have h' : Rs (f2 env) (fun x e => Os ((fz x e).o fun d e => .nx ((e.set i (.ob false (.dk []))).set j (.va d))) (nS X.K B F D.nx) (rS X.K B F D.rt) (xS W X.K B F) (nS X.K B F D.bk) (nS X.K B F D.ct)) (xW W X.K { B with H0 := upd B.H0 q (.dK []) } F σ) := by
    have h := Os.r (σ := σ) h
    cases e : f2 env with
    | ok x e' => rw [e] at h; exact h
    | bad => rw [e] at h; exact h
    | exc cc e' =>
      rw [e] at h
      intro H' F' l' S'
      exact h H' F' l' (S'.delH nH n0).1
  refine tE_in S1 .refl h' fun z e1 v H1 F1 l1 S2 r1 h1 => ?_
  refine fz_in S2 r1 h1 fun d e2 F2 l2 S3 z3 h2 => ?_
  obtain ⟨S4, hp, nF4, ns4⟩ := S3.delH nH n0
  refine ⟨.ref q, v, rfl, h2 _ H1 F2 (l1.trans l2) ?_⟩
  refine SR.setVa ?_ j z3
  have S5 := S4.setD' (u := .dK []) (o := .dk []) i nF4 nH ns4 (fun _ _ => ft_dk) ⟨[], upd_same, .nil⟩
  rw [upd_self hp] at S5
  exact S5
/-! {k: v, ..} -/
def ddPairs : List (M Vd × M Vd) → M (List (Key × D))
  | [] => fun e => .ok [] e
  | (fk, fv) :: r => fun e => (noX fk e).bnd fun x e => match (rd e x).bind keyD with
    | some k => (noX fv e).bnd fun y e => (fz y e).bnd fun d e => (ddPairs r e).bnd fun l e => .ok ((k, d) :: l) e
    | none => .bad
def mergeD (l : List (Key × D)) : List (Key × D) := l.foldl (fun acc kv => putD acc kv.1 kv.2) []
def sDDisp (i : Nat) (fs : List (M Vd × M Vd)) : En → O := fun e => (ddPairs fs e).o fun l e => if Nat.ble l.length 15 = true then .nx (e.set i (.ob false (.dk (mergeD l)))) else .bad
abbrev JPs (X : Cx) (W : WX) (q : Pos) (ks : List (Option Expr)) (vs : List Expr) (fs : List (M Vd × M Vd)) : Prop := PPs X q ks vs (fs.map fun f => (tE X.K W f.1, tE X.K W f.2))
theorem jps_nil {q : Pos} : JPs X W q [] [] [] := pps_nil
theorem jps_cons {q : Pos} {ks : List (Option Expr)} {vs : List Expr} {fs : List (M Vd × M Vd)} (hk : JE X W a fk) (hv : JE X W b fv) (hr : JPs X W q ks vs fs) : JPs X W q (some a :: ks) (b :: vs) ((fk, fv) :: fs) := pps_cons hk hv hr
theorem ddPairs_noexc : ∀ (fs : List (M Vd × M Vd)) (e : En) (c : Str) (e' : En), ddPairs fs e ≠ .exc c e'
  | [], _, _, _, h => by cases h
  | (fk, fv) :: r, e, c, e', h => by
    unfold ddPairs at h
    unfold noX at h
    cases q : fk e with
    | bad => rw [q] at h; cases h
    | exc c2 e2 => rw [q] at h; cases h
    | ok y e1 =>
      rw [q] at h
      simp only [R.bnd] at h
      split at h
      · cases q2 : fv e1 with
        | bad => rw [q2] at h; cases h
        | exc c2 e2 => rw [q2] at h; cases h
        | ok y e2 =>
          rw [q2] at h
          simp only [R.bnd] at h
          cases q3 : fz y e2 with
          | bad => rw [q3] at h; cases h
          | exc c2 e2 => exact fz_noexc _ _ _ _ q3
          | ok d e3 =>
            rw [q3] at h
            simp only [R.bnd] at h
            cases q4 : ddPairs r e3 with
            | bad => rw [q4] at h; cases h
            | exc c2 e2 => exact ddPairs_noexc _ _ _ _ q4
            | ok l e4 => rw [q4] at h; cases h
      · cases h
theorem pairs_run {K : PySem.W.Frag} {B : Bs} {σ : L2.St} : ∀ (fs : List (M Vd × M Vd)) {F : Hp} {e : En} {H : Hp} {P : List (Key × D) → En → Prop} {E : Str → En → Prop} {Q : List (V × V) → Hp → Prop}, SR K B F e σ H → Rs (ddPairs fs e) P E →
    (∀ l e' H' F' vs, Le F F' → SR K B F' e' σ H' → KvR K F' vs l → P l e' → Q (vs.map fun kv => (kV kv.1, kv.2)) H') → tPairs (fs.map fun f => (tE K W f.1, tE K W f.2)) σ H Q
  | [], F, e, H, P, E, Q, S, h, k => k [] e H F [] .refl S .nil h
  | (fk, fv) :: fs, F, e, H, P, E, Q, S, h, k => by
    show tE K W fk σ H _
    refine tE_in S .refl (Rs.noX (E' := xW W K B F σ) (Rs.bnd h)) fun x e1 v H1 F1 l1 S1 r1 h1 => ?_
    split at h1
    · rename_i kk q1
      have ek := key_at S1 r1 q1
      subst ek
      refine tE_in S1 .refl (Rs.noX (E' := xW W K B F1 σ) (Rs.bnd h1)) fun y e2 w H2 F2 l2 S2 r2 h2 => ?_
      refine fzR_in S2 r2 h2 fun d e3 F3 l3 S3 z3 h3 => ?_
      refine pairs_run fs S3 (Rs.bnd h3) fun l e4 H4 F4 vs l4 S4 r4 h4 => ?_
      exact k ((kk, d) :: l) e4 H4 F4 ((kk, w) :: vs) (((l1.trans l2).trans l3).trans l4) S4 (.cons ⟨rfl, l4.dq z3⟩ r4) h4
    · exact h1.elim
theorem merge_kvr {K : PySem.W.Frag} {F : Hp} : ∀ {vs : List (Key × V)} {l : List (Key × D)} {vs0 : List (Key × V)} {l0 : List (Key × D)}, KvR K F vs l → KvR K F vs0 l0 → KvR K F (vs.foldl (fun acc kv => putK acc kv.1 kv.2) vs0) (l.foldl (fun acc kv => putD acc kv.1 kv.2) l0)
  | _, _, _, _, .nil, h => h
  | _, _, _, _, .cons (a := p) (b := q) h t, h0 => by
    rw [List.foldl_cons, List.foldl_cons, h.1]
    exact merge_kvr t (KvR.put q.1 h.2 h0)
theorem js_ddisp {pos' q : Pos} {ks : List (Option Expr)} {vs : List Expr} {fs : List (M Vd × M Vd)} (hN : X.N.Nodup) (hi : X.N[i]? = some x) (hx : Loc X.env.scope x) (hp : JPs X W q ks vs fs)
    (hall : ks.all (·.isSome) = true := by rfl) (hl : ks.length = vs.length := by rfl) (h0 : ks ≠ [] := by simp) (h15 : ks.length ≤ 15 := by decide) (hlen : fs.length ≤ 15 := by decide)
    (hs : swapsWith (.Dict ks vs q) (some (.Name x pos')) pos.line X.env = pure false := by rfl) (hf : X.fn x = true ∨ X.env.scope.names.lookup x = some .local := by first | exact .inl rfl | exact .inr rfl | assumption) :
    JS X W (.Assign [.Name x pos'] (.Dict ks vs q) pos) (sDDisp i fs) := by
  refine PS.imp (ps_set hN hi hx (pe_disp hp hall hl h0 h15) hs hf) fun D σ H h => ?_
  obtain ⟨B, F, env, S, h⟩ := h
  intro p n
  have nF := S.fh.none n
  have nH := S.same.none n
  have S1 := (S.beside (o := .dK []) n).addH upd_same nF (S.noFt n).upd
  have n0 : B.F0 p = none := S.f0.none nF
  refine pairs_run fs S1 (Os.r (σ := σ) h) fun l e1 H1 F1 ws l1 S2 r2 h2 => ?_
  obtain ⟨S4, hp4, nF4, ns4⟩ := S2.delH nH n0
  split at h2
  · rename_i hz
    have hz := Nat.le_of_ble_eq_true hz
    refine ⟨hp4, ws, rfl, by rw [KvR.len r2]; exact hz, h2 _ _ F1 l1 ?_⟩
    exact S4.setD' (o := .dk (mergeD l)) i nF4 nH ns4 (fun _ _ => ft_dk) ⟨_, upd_same, merge_kvr r2 .nil⟩
  · exact h2.elim
/-! sorted(x), the keys ints -/
theorem intKeys_ok {K : PySem.W.Frag} {F : Hp} : ∀ {vs : List (Key × V)} {kvs : List (Key × D)} {ks : List Int}, KvR K F vs kvs → intKeys kvs = some ks → vs.map (·.1) = ks.map Sum.inl
  | _, _, _, .nil, e => by cases e; rfl
  | _, _, ks, .cons (a := p) (b := (.inl n, d)) h t, e => by
    unfold intKeys at e
    obtain ⟨r, e1, e2⟩ := Option.map_eq_some_iff.mp e
    subst e2
    rw [List.map_cons, List.map_cons, h.1, intKeys_ok t e1]
  | _, _, ks, .cons (a := p) (b := (.inr n, d)) h t, e => by cases e
end
end Pf
namespace Pf
open PySem PySem.Spec PyProof.Rows L2
/-! ### list(range(n)), tuple(range(n)) -/
theorem rngD_map : ∀ (n : Nat) (lo : Int), rngD lo n = (List.range n).map fun i => PyData.int (lo + (i : Nat))
  | 0, _ => rfl
  | n + 1, lo => by
    rw [List.range_succ_eq_map, List.map_cons, List.map_map]
    show PyData.int lo :: rngD (lo + 1) n = _
    rw [rngD_map n (lo + 1)]
    congr 1
    · simp
    · apply List.map_congr_left
      intro i _
      simp
      omega
theorem dqAll_map {K : PySem.W.Frag} {F : Hp} {α : Type} {g : α → V} {h : α → D} (k : ∀ a, Dq K F (g a) (h a)) : ∀ l : List α, DqAll K F (l.map g) (l.map h)
  | [] => .nil
  | a :: l => .cons (k a) (dqAll_map k l)
def tRgI (f : M Vd) : M (List D) := fun env => (f env).bnd fun x e => match rd e x with
  | some (.int n) => (match rng1 [n] with
    | some ds => .ok ds e
    | none => .bad)
  | _ => .bad
def eTupRg (f : M Vd) : M Vd := fun env => (tRgI f env).bnd fun ds e => .ok (.dat (.tuple ds)) e
section
variable {X : Cx} {W : WX} {a : Expr} {f : M Vd} {p p2 q pos : Pos}
theorem rg_in {K : PySem.W.Frag} {n : Int} {ds : List D} (e : rng1 [n] = some ds) : RgOk 0 n ∧ ∀ F, DqAll K F (rgV 0 n) ds := by
  unfold rng1 at e
  simp only at e
  split at e
  · rename_i h
    cases e
    obtain ⟨h1, h2⟩ := He.ba h
    obtain ⟨h3, h4⟩ := small_ok h1
    have h5 := szL_le h2
    refine ⟨⟨by omega, by omega, by omega, by omega, ?_⟩, fun F => ?_⟩
    · rw [Int.sub_zero]
      exact Nat.le_trans h5 (by decide)
    · rw [rngD_map]
      unfold rgV
      rw [Int.sub_zero]
      exact dqAll_map (fun i => .int _) _
  · cases e
theorem run_rg {σ : L2.St} {H : Hp} {R : Int → Int → Hp → Prop} {P : List D → En → Prop} {B : Bs} {F : Hp} {env : En} {E : Str → En → Prop} (S : SR X.K B F env σ H) (h : Rs (tRgI f env) P (xW W X.K B F σ))
    (k : ∀ n ds e H' F', Le F F' → SR X.K B F' e σ H' → RgOk 0 n → DqAll X.K F' (rgV 0 n) ds → P ds e → R 0 n H') : tRg1 (tE X.K W f) σ H R := by
  refine tE_in S .refl h.bnd fun x e1 v H1 F1 l1 S1 r1 h1 => ?_
  cases q1 : rd e1 x with
  | none => rw [q1] at h1; exact h1.elim
  | some d =>
    rw [q1] at h1
    cases d with
    | int n =>
      have t := S1.tp r1 q1
      cases t
      simp only at h1
      cases q2 : rng1 [n] with
      | none => rw [q2] at h1; exact h1.elim
      | some ds =>
        rw [q2] at h1
        obtain ⟨g1, g2⟩ := rg_in (K := X.K) q2
        exact ⟨n, rfl, k n ds e1 H1 F1 l1 S1 g1 (g2 F1) h1⟩
    | _ => exact h1.elim
theorem jn_listRg (hc : X.calm = true) (hg : Gl X "list") (hm : X.mg "list" = none) (hg2 : Gl X "range") (hm2 : X.mg "range" = none) (ha : JE X W a f) (na : starEach [a] X.env = (false, eval a X.env) :: starEach [] X.env := by rfl) :
    JN X W (.Call (.Name "list" p) [.Call (.Name "range" p2) [a] [] q] [] pos) (tRgI f) := by
  refine PE.imp (pe_listRg hc hg hm (prg_1 hg2 hm2 ha na) rfl) fun σ H Q h => ?_
  obtain ⟨B, F, env, S, h⟩ := h
  refine run_rg (E := xW W X.K B F σ) S h fun n ds e H1 F1 l1 S1 ok dq h1 => ⟨ok, fun r nr => ?_⟩
  obtain ⟨S3, fr⟩ := S1.fresh nr dq
  exact h1 r _ F1 l1 S3 fr
theorem je_tupRg (hc : X.calm = true) (hg : Gl X "tuple") (hm : X.mg "tuple" = none) (hg2 : Gl X "range") (hm2 : X.mg "range" = none) (ha : JE X W a f) (na : starEach [a] X.env = (false, eval a X.env) :: starEach [] X.env := by rfl) :
    JE X W (.Call (.Name "tuple" p) [.Call (.Name "range" p2) [a] [] q] [] pos) (eTupRg f) := by
  refine PE.imp (pe_tupRg hc hg hm (prg_1 hg2 hm2 ha na) rfl) fun σ H Q h => ?_
  obtain ⟨B, F, env, S, h⟩ := h
  refine run_rg (E := xW W X.K B F σ) S h.bnd fun n ds e H1 F1 l1 S1 ok dq h1 => ⟨ok, fun r nr => ?_⟩
  have nF := S1.fh.none nr
  exact h1 _ _ _ (l1.trans (Le.upd nF)) (S1.alloc nr) (.tup (SqT.of upd_same) ((Le.upd nF).dqAll dq))
end
/-! ### sorted(xs), a list of ints, or of tuples of ints -/
def insT (k : List Int) : List (List Int) → List (List Int)
  | [] => [k]
  | x :: xs => if TS.code 1000 k ≤ TS.code 1000 x then k :: x :: xs else x :: insT k xs
def sortT : List (List Int) → List (List Int)
  | [] => []
  | k :: ks => insT k (sortT ks)
theorem perm_insT {k : List Int} : ∀ l : List (List Int), (insT k l).Perm (k :: l)
  | [] => .refl _
  | x :: xs => by
    unfold insT
    split
    · exact .refl _
    · exact ((perm_insT xs).cons x).trans (.swap _ _ _)
theorem perm_sortT : ∀ l : List (List Int), (sortT l).Perm l
  | [] => .refl _
  | k :: ks => (perm_insT _).trans ((perm_sortT ks).cons k)
abbrev leT (a b : List Int) : Prop := TS.code 1000 a ≤ TS.code 1000 b
theorem pw_insT {k : List Int} : ∀ {l : List (List Int)}, l.Pairwise leT → (insT k l).Pairwise leT
  | [], _ => by simp [insT]
  | x :: xs, h => by
    obtain ⟨h1, h2⟩ := List.pairwise_cons.mp h
    unfold insT
    split
    · rename_i c
      refine List.pairwise_cons.mpr ⟨fun y hy => ?_, h⟩
      rcases List.mem_cons.mp hy with e | hy
      · rw [e]; exact c
      · exact Int.le_trans c (h1 y hy)
    · refine List.pairwise_cons.mpr ⟨fun y hy => ?_, pw_insT h2⟩
      rcases List.mem_cons.mp ((perm_insT xs).mem_iff.mp hy) with e | hy
      · subst e; show TS.code 1000 x ≤ TS.code 1000 y; omega
      · exact h1 y hy
theorem pw_sortT : ∀ l : List (List Int), (sortT l).Pairwise leT
  | [] => .nil
  | _ :: ks => pw_insT (pw_sortT ks)
theorem code_inj : ∀ {a b : List Int}, a.length = b.length → TS.Bd 1000 a → TS.Bd 1000 b → TS.code 1000 a = TS.code 1000 b → a = b
  | [], [], _, _, _, _ => rfl
  | d :: r, e :: q, hl, h1, h2, h => by
    have hl' : r.length = q.length := by simpa using hl
    have b1 : TS.Bd 1000 r := fun m hm => h1 m (List.mem_cons_of_mem _ hm)
    have b2 : TS.Bd 1000 q := fun m hm => h2 m (List.mem_cons_of_mem _ hm)
    have de : d = e := by
      rcases Int.lt_trichotomy d e with c | c | c
      · have := TS.code_lt hl' b1 b2 c; omega
      · exact c
      · have := TS.code_lt hl'.symm b2 b1 c; omega
    subst de
    have hq : TS.code 1000 r = TS.code 1000 q := by
      have k1 := (TS.code_same (B := 1000) (d := d) hl')
      have k2 := (TS.code_same (B := 1000) (d := d) hl'.symm)
      have n1 : ¬ TS.code 1000 r < TS.code 1000 q := fun z => by have := k1.mpr z; omega
      have n2 : ¬ TS.code 1000 q < TS.code 1000 r := fun z => by have := k2.mpr z; omega
      omega
    rw [code_inj hl' b1 b2 hq]
def tupI1 (d : Nat) : D → Option (List Int)
  | .tuple ds => (match intsOf ds with
    | some ns => if (Nat.beq ns.length d && ns.all fun n => decide (0 ≤ n) && decide (n < 1000)) = true then some ns else none
    | none => none)
  | _ => none
def tupsI (d : Nat) : List D → Option (List (List Int))
  | [] => some []
  | x :: xs => match tupI1 d x, tupsI d xs with
    | some a, some l => some (a :: l)
    | _, _ => none
def lenT : List D → Nat
  | .tuple ds :: _ => ds.length
  | _ => 1
def sortD (ds : List D) : Option (List D) := match intsOf ds with
  | some ns => some ((sortI ns).map PyData.int)
  | none => if (Nat.ble 1 (lenT ds) && sz64 ds.length) = true then (match tupsI (lenT ds) ds with
    | some ts => some ((sortT ts).map fun t => .tuple (t.map PyData.int))
    | none => none) else none
def nSortT (f : M Vd) : M (List D) := fun env => (f env).bnd fun x e => match rd e x with
  | some (.list ds) => (match sortD ds with
    | some es => .ok es e
    | none => .bad)
  | _ => .bad
abbrev TR (K : PySem.W.Frag) (F : Hp) (v : V) (ns : List Int) : Prop := ∃ t, v = .ref t ∧ SqT K F t (ns.map V.int)
theorem tups_dq {K : PySem.W.Frag} {F : Hp} {d : Nat} : ∀ {vs : List V} {ds : List D} {ts : List (List Int)}, DqAll K F vs ds → tupsI d ds = some ts → Paired (TR K F) vs ts ∧ ∀ t ∈ ts, t.length = d ∧ TS.Bd 1000 t
  | _, _, _, .nil, e => by cases e; exact ⟨.nil, fun t h => by cases h⟩
  | _, _, ts, .cons (d := x) (ds := xs) h t, e => by
    unfold tupsI at e
    split at e
    · rename_i a l q1 q2
      cases e
      obtain ⟨i1, i2⟩ := tups_dq t q2
      unfold tupI1 at q1
      split at q1
      · rename_i ds'
        split at q1
        · rename_i ns q3
          split at q1
          · rename_i hz
            cases q1
            obtain ⟨z1, z2⟩ := He.ba hz
            cases h with
            | @tup ad xs' _ g1 g2 =>
              rw [ints_dq g2 q3] at g1
              refine ⟨.cons ⟨ad, rfl, g1⟩ i1, fun u hu => ?_⟩
              rcases List.mem_cons.mp hu with rfl | hu
              · refine ⟨Nat.eq_of_beq_eq_true z1, fun m hm => ?_⟩
                obtain ⟨w1, w2⟩ := He.ba (List.all_eq_true.mp z2 m hm)
                exact ⟨of_decide_eq_true w1, of_decide_eq_true w2⟩
              · exact i2 u hu
          · cases q1
        · cases q1
      · cases q1
    · cases e
theorem perm_tr {K : PySem.W.Frag} {F : Hp} {ys xs : List V} (p : ys.Perm xs) : ∀ {ts : List (List Int)}, Paired (TR K F) xs ts → ∃ us, us.Perm ts ∧ Paired (TR K F) ys us := by
  induction p with
  | nil => intro ts h; exact ⟨ts, .refl _, h⟩
  | cons x _ ih =>
    intro ts h
    cases h with
    | cons h t =>
      obtain ⟨us, e1, e2⟩ := ih t
      exact ⟨_ :: us, e1.cons _, .cons h e2⟩
  | swap x y l =>
    intro ts h
    cases h with
    | cons h t =>
      cases t with
      | cons h2 t => exact ⟨_, .swap _ _ _, .cons h2 (.cons h t)⟩
  | trans _ _ ih1 ih2 =>
    intro ts h
    obtain ⟨us, e1, e2⟩ := ih2 h
    obtain ⟨ws, e3, e4⟩ := ih1 e2
    exact ⟨ws, e3.trans e1, e4⟩
theorem pw_tr {K : PySem.W.Frag} {F H : Hp} (l : Le F H) : ∀ {ys : List V} {us : List (List Int)}, Paired (TR K F) ys us → ys.Pairwise (fun x y => ∀ n m, TupI K H x n → TupI K H y m → TS.code 1000 n ≤ TS.code 1000 m) → us.Pairwise leT
  | _, _, .nil, _ => .nil
  | _, _, .cons (a := y) (b := u) h t, hp => by
    obtain ⟨h1, h2⟩ := List.pairwise_cons.mp hp
    refine List.pairwise_cons.mpr ⟨fun w hw => ?_, pw_tr l t h2⟩
    have mem : ∀ {ys : List V} {us : List (List Int)}, Paired (TR K F) ys us → ∀ w ∈ us, ∃ y ∈ ys, TR K F y w := by
      intro ys us r
      induction r with
      | nil => intro w hw; cases hw
      | cons h t ih =>
        intro w hw
        rcases List.mem_cons.mp hw with rfl | hw
        · exact ⟨_, List.mem_cons_self, h⟩
        · obtain ⟨y, y1, y2⟩ := ih w hw
          exact ⟨y, List.mem_cons_of_mem _ y1, y2⟩
    obtain ⟨y', m1, t', e', s'⟩ := mem t w hw
    obtain ⟨t0, e0, s0⟩ := h
    exact h1 y' m1 u w ⟨t0, e0, l.sqT s0⟩ ⟨t', e', l.sqT s'⟩
theorem tr_dq {K : PySem.W.Frag} {F : Hp} : ∀ {ys : List V} {us : List (List Int)}, Paired (TR K F) ys us → DqAll K F ys (us.map fun t => .tuple (t.map PyData.int))
  | _, _, .nil => .nil
  | _, _, .cons h t => by
    obtain ⟨a, rfl, s⟩ := h
    exact .cons (.tup s (dqAll_ints _)) (tr_dq t)
section
variable {X : Cx} {W : WX} {e : Expr} {f : M Vd} {p pos : Pos} {i : Nat} {x : Str}
theorem jn_sortT (hg : Gl X "sorted") (hm : X.mg "sorted" = none) (ha : JE X W e f) (he : starEach [e] X.env = (false, eval e X.env) :: starEach [] X.env := by rfl) (hpl : (backTo pos (starEach [] X.env)).any (·.1) = false := by rfl) :
    JN X W (.Call (.Name "sorted" p) [e] [] pos) (nSortT f) := by
  have cr : CallR X (.builtin "sorted") (fun vs H Q => rSortedI X.K vs H Q ∨ ∃ d, 1 ≤ d ∧ rSortU X.K d 1000 vs H Q) := by
    intro pins s σ H vs us Q I r h
    rcases h with h | ⟨d, hd, h⟩
    · exact cr_sortedI pins s σ H vs us Q I r h
    · exact cr_sortT hd pins s σ H vs us Q I r h
  refine PE.imp (pe_callB cr hg hm boot_sorted (pa_cons ha pa_nil he) (by decide) (by decide) he hpl) fun σ H Q h => ?_
  obtain ⟨B, F, env, S, h⟩ := h
  refine tE_in S .refl h.bnd fun x e1 v H1 F1 l1 S1 r1 h1 => ?_
  cases q3 : rd e1 x with
  | none => rw [q3] at h1; exact h1.elim
  | some d =>
    have t := S1.tp r1 q3
    cases t with
    | @lst a vs ds g1 g2 =>
      rw [q3] at h1
      simp only at h1
      cases q4 : sortD ds with
      | none => rw [q4] at h1; exact h1.elim
      | some es =>
        rw [q4] at h1
        simp only at h1
        unfold sortD at q4
        cases q2 : intsOf ds with
        | some ns =>
          rw [q2] at q4
          cases q4
          rw [ints_dq g2 q2] at g1
          refine .inl ⟨a, ns, rfl, SqL.of g1, fun ns' p' h3 h4 h6 => ?_⟩
          have e5 := sortI_uniq h4 h3
          subst e5
          obtain ⟨S3, fr⟩ := S1.fresh h6 (dqAll_ints (K := X.K) (F := F1) (sortI ns))
          exact h1 p' _ F1 l1 S3 fr
        | none =>
          rw [q2] at q4
          simp only at q4
          split at q4
          · rename_i hz
            obtain ⟨z1, z2⟩ := He.ba hz
            have z1 := Nat.le_of_ble_eq_true z1
            have z2 := Nat.blt_eq.mp z2
            cases q5 : tupsI (lenT ds) ds with
            | none => rw [q5] at q4; cases q4
            | some ts =>
              rw [q5] at q4
              cases q4
              obtain ⟨pr, bd⟩ := tups_dq g2 q5
              have inV : ∀ {vs : List V} {ts : List (List Int)}, Paired (TR X.K F1) vs ts → ∀ v ∈ vs, ∃ t ∈ ts, TR X.K F1 v t := by
                intro vs ts r
                induction r with
                | nil => intro v hv; cases hv
                | cons h t ih =>
                  intro v hv
                  rcases List.mem_cons.mp hv with rfl | hv
                  · exact ⟨_, List.mem_cons_self, h⟩
                  · obtain ⟨y, y1, y2⟩ := ih v hv
                    exact ⟨y, List.mem_cons_of_mem _ y1, y2⟩
              refine .inr ⟨lenT ds, z1, a, vs, rfl, SqL.of g1, by rw [dqAll_len g2]; exact z2, fun v hv => ?_, fun ys p' h3 h4 h6 => ?_⟩
              · obtain ⟨t, t1, ad, t2, t3⟩ := inV pr v hv
                exact ⟨t, ⟨ad, t2, S1.fh.sqT t3⟩, (bd t t1).1, (bd t t1).2⟩
              · obtain ⟨us, u1, u2⟩ := perm_tr h3 pr
                have u3 := pw_tr S1.fh u2 h4
                have e5 : us = sortT ts := List.Perm.eq_of_pairwise (le := leT) (fun x y hx hy k1 k2 => by
                  have bx := bd x (u1.mem_iff.mp hx)
                  have by' := bd y ((perm_sortT ts).mem_iff.mp hy)
                  exact code_inj (bx.1.trans by'.1.symm) bx.2 by'.2 (Int.le_antisymm k1 k2)) u3 (pw_sortT ts) (u1.trans (perm_sortT ts).symm)
                subst e5
                obtain ⟨S3, fr⟩ := S1.fresh h6 (tr_dq u2)
                exact h1 p' _ F1 l1 S3 fr
          · cases q4
    | _ => rw [q3] at h1; exact h1.elim
/-! sorted(x), x a dict with int keys -/
def nDSort (i : Nat) : M (List D) := fun e => match dkAt e i with
  | some kvs => (match intKeys kvs with
    | some ks => if sz64 ks.length = true then .ok ((sortI ks).map PyData.int) e else .bad
    | none => .bad)
  | none => .bad
theorem jn_dsort {p2 : Pos} (hcl : X.calm = true) (hN : X.N[i]? = some x) (hv : Vis X.env.scope x) (hg : Gl X "sorted") (hm : X.mg "sorted" = none) (hd : (x == ("__debug__" : Str)) = false := by decide) (hcd : (x == ("__classdict__" : Str)) = false := by decide) :
    JN X W (.Call (.Name "sorted" p2) [.Name x p] [] pos) (nDSort i) := by
  refine PE.imp (pe_callB (call_sortedDI hcl) hg hm boot_sorted (pa_cons (pe_var hN hv hd hcd) pa_nil rfl) (by decide) (by decide) rfl rfl) fun σ H Q h => ?_
  obtain ⟨B, F, env, S, h⟩ := h
  unfold nDSort at h
  split at h
  · rename_i kvs q
    obtain ⟨bb, ad, vs, g0, g1, g2, g3⟩ := S.dk q
    split at h
    · rename_i ks q2
      split at h
      · rename_i hz
        refine ⟨_, g1, ad, vs, ks, rfl, .inl g2, intKeys_ok g3 q2, Nat.blt_eq.mp hz, fun ys p' h1 h2 h3 => ?_⟩
        have e5 := sortI_uniq h2 h1
        subst e5
        obtain ⟨S3, fr⟩ := S.fresh h3 (dqAll_ints (K := X.K) (F := F) (sortI ks))
        exact h _ _ F .refl S3 fr
      · exact h.elim
    · exact h.elim
  · exact h.elim
end
end Pf
namespace Pf
open PySem PySem.Spec PyProof.Rows L2
def g_conjugates : En → O := sSeq (sDrop (eCall (Ar 2 m_check_both) (aCons (eVar 0) (aCons (eVar 1) (aNil)))))
  (sRet (eN (nSortSet (eCall (Ar 2 m_path_of) (aCons (eVar 0) (aCons (eVar 1) (aNil)))))))
def m_conjugates : List D → Rf := runF 2 g_conjugates
def g_least_polynomial : En → O := sSeq (sDrop (eCall (Ar 2 m_check_both) (aCons (eVar 0) (aCons (eVar 1) (aNil)))))
  (sSeq (sSet 2 (eN (nLst (aCons (eC (.int 1)) (aNil)))))
  (sSeq (sFor (lSeq (eN (nSortSet (eCall (Ar 2 m_path_of) (aCons (eVar 0) (aCons (eVar 1) (aNil))))))) (gN 3) (sSeq (sOwn 4 (nOp2 nCat (eN (nLst (aCons (eC (.int 0)) (aNil)))) (eVar 2)))
  (sSeq (sFor (lEnum (aCons (eVar 2) (aNil))) (gT [5, 6]) (sItem 4 (eVar 5) (eCall (Ar 3 mm_plus) (aCons (eVar 0) (aCons (eOp2 gIx (eVar 4) (eVar 5)) (aCons (eCall (Ar 3 mm_times) (aCons (eVar 0) (aCons (eCall (Ar 2 mm_minus) (aCons (eVar 0) (aCons (eVar 3) (aNil)))) (aCons (eVar 6) (aNil))))) (aNil)))))))
  (sSet 2 (eVar 4)))))
  (sRet (eB gTuple (aCons (eVar 2) (aNil))))))
def m_least_polynomial : List D → Rf := runF 7 g_least_polynomial
def g_likenesses : En → O := sSeq (sDrop (eCall (Ar 2 m_check_fields) (aCons (eVar 0) (aCons (eVar 1) (aNil)))))
  (sSeq (sOwn 2 (nLst (aNil)))
  (sSeq (sFor (lRng rng1 (aCons (eCall (Ar 1 mm_size_of) (aCons (eVar 1) (aNil))) (aNil))) (gN 3) (sIf (bT (eOp2 gEq (eCall (Ar 3 m_value_at) (aCons (eVar 1) (aCons (eOp2 gAdd (eOp2 gIx (eVar 0) (eC (.int 1))) (eTup (aCons (eC (.int 1)) (aNil)))) (aCons (eVar 3) (aNil))))) (eC (.int 0)))) (sDrop (eApp 2 (eB gTuple (aCons (eN (nLc (lRng rng1 (aCons (eCall (Ar 1 mm_size_of) (aCons (eVar 0) (aNil))) (aNil))) (gN 4) (bYes) (eCall (Ar 3 m_value_at) (aCons (eVar 1) (aCons (eB gTuple (aCons (eCall (Ar 2 m_digits_of) (aCons (eVar 0) (aCons (eVar 4) (aNil)))) (aNil))) (aCons (eVar 3) (aNil))))) [4])) (aNil))))) (sNil)))
  (sRet (eN (nSortT (eVar 2))))))
def m_likenesses : List D → Rf := runF 5 g_likenesses
def g_is_likeness : En → O := sSeq (sDrop (eCall (Ar 2 m_check_fields) (aCons (eVar 0) (aCons (eVar 1) (aNil)))))
  (sSeq (sSet 3 (eCall (Ar 1 mm_size_of) (aCons (eVar 0) (aNil))))
  (sSeq (sIf (bOr (bNot (bT (eCall (Ar 4 m_are_elements) (aCons (eVar 1) (aCons (eVar 2) (aCons (eVar 3) (aCons (eVar 3) (aNil)))))))) (bT (eOp2 gNe (eLenSet (eVar 2)) (eVar 3)))) (sRet (eC (.bool false))) (sNil))
  (sSeq (sFor (lRng rng1 (aCons (eVar 3) (aNil))) (gN 4) (sFor (lRng rng2 (aCons (eVar 4) (aCons (eVar 3) (aNil)))) (gN 5) (sSeq (sIf (bT (eOp2 gNe (eOp2 gIx (eVar 2) (eCall (Ar 3 mm_plus) (aCons (eVar 0) (aCons (eVar 4) (aCons (eVar 5) (aNil)))))) (eCall (Ar 3 mm_plus) (aCons (eVar 1) (aCons (eOp2 gIx (eVar 2) (eVar 4)) (aCons (eOp2 gIx (eVar 2) (eVar 5)) (aNil))))))) (sRet (eC (.bool false))) (sNil))
  (sIf (bT (eOp2 gNe (eOp2 gIx (eVar 2) (eCall (Ar 3 mm_times) (aCons (eVar 0) (aCons (eVar 4) (aCons (eVar 5) (aNil)))))) (eCall (Ar 3 mm_times) (aCons (eVar 1) (aCons (eOp2 gIx (eVar 2) (eVar 4)) (aCons (eOp2 gIx (eVar 2) (eVar 5)) (aNil))))))) (sRet (eC (.bool false))) (sNil)))))
  (sRet (eC (.bool true))))))
def m_is_likeness : List D → Rf := runF 6 g_is_likeness
def g__law_told : En → O := sSeq (sSet 2 (eN (nLst (aCons (eCall (Ar 1 m_generators) (aCons (eVar 0) (aNil))) (aCons (eCall (Ar 2 m_conjugates) (aCons (eVar 0) (aCons (eVar 1) (aNil)))) (aCons (eCall (Ar 2 m_subfield) (aCons (eVar 0) (aCons (eC (.int 1)) (aNil)))) (aCons (eCall (Ar 2 m_likenesses) (aCons (eVar 0) (aCons (eVar 0) (aNil)))) (aCons (eCall (Ar 2 m_fields) (aCons (eC (.int 2)) (aCons (eC (.int 3)) (aNil)))) (aNil)))))))))
  (sRet (eOp2 gAdd (eVar 2) (eN (nLst (aCons (eCall (Ar 2 m_roots) (aCons (eVar 0) (aCons (eC (.int 1)) (aNil)))) (aCons (eN (nLst (aCons (eCall (Ar 1 mm_size) (aCons (eVar 0) (aNil))) (aCons (eCall (Ar 3 mm_power) (aCons (eVar 0) (aCons (eVar 1) (aCons (eC (.int 5)) (aNil))))) (aNil))))) (aNil)))))))
def m__law_told : List D → Rf := runF 3 g__law_told
end Pf
namespace Pf
open PySem PySem.Spec PyProof.Rows L2
def g_Reckoner___init__ : En → O := sSeq (sDrop (eCall (Ar 2 m_check_both) (aCons (eVar 1) (aCons (eVar 2) (aNil)))))
  (sSeq (sFldSet 0 "Reckoner" "field" (eVar 1))
  (sSeq (sFldOwn 0 "Reckoner" "trail" (nLst (aCons (eVar 2) (aNil))))
  (sFldSet 0 "Reckoner" "kept" (eC (.int 1)))))
def m_Reckoner___init__ : En → RfE := runG 3 none (some 0) g_Reckoner___init__
def g_Reckoner_multiply : En → O := sSeq (sDrop (eCall (Ar 2 mm_check_element) (aCons (eFld 0 "Reckoner" "field") (aCons (eVar 1) (aNil)))))
  (sSeq (sDrop (eFldApp 0 "Reckoner" "trail" 3 mm_times (qCons (qFld 0 "Reckoner" "field") (qCons (qFldIx 0 "Reckoner" "trail" (-1)) (qCons (qVar 1) (qNil))))))
  (sRet (eFldIx 0 "Reckoner" "trail" (-1))))
def m_Reckoner_multiply : En → RfE := runG 2 none (some 0) g_Reckoner_multiply
def g_Reckoner_element : En → O := sRet (eFldIx 0 "Reckoner" "trail" (-1))
def m_Reckoner_element : En → RfE := runG 1 none (some 0) g_Reckoner_element
def g_Reckoner_path : En → O := sRet (eN (nFldList 0 "Reckoner" "trail"))
def m_Reckoner_path : En → RfE := runG 1 none (some 0) g_Reckoner_path
def g_Reckoner_undo : En → O := sSeq (sIf (bT (eOp2 gEq (eFldLen 0 "Reckoner" "trail") (eFld 0 "Reckoner" "kept"))) (sRaise "NothingToUndo") (sNil))
  (sSeq (sFldOwn 0 "Reckoner" "trail" (nFldCut 0 "Reckoner" "trail" none (some (-1))))
  (sRet (eFldIx 0 "Reckoner" "trail" (-1))))
def m_Reckoner_undo : En → RfE := runG 1 none (some 0) g_Reckoner_undo
def g_Reckoner___len__ : En → O := sRet (eB gLen (aCons (eN (nFldCut 0 "Reckoner" "trail" (some (1)) none)) (aNil)))
def m_Reckoner___len__ : En → RfE := runG 1 none (some 0) g_Reckoner___len__
def g_Reckoner___str__ : En → O := sRet (eJoin (eC (.str " ")) (eN (nLst (aCons (eB gStr (aCons (eFldIx 0 "Reckoner" "trail" (-1)) (aNil))) (aCons (eOp2 gAdd (eOp2 gAdd (eC (.str "(")) (eCall (Ar 1 m_text_of) (aCons (eFld 0 "Reckoner" "field") (aNil)))) (eC (.str ")"))) (aNil))))))
def m_Reckoner___str__ : En → RfE := runG 1 none (some 0) g_Reckoner___str__
def L16_0 : En → O := sOwn 1 (nLst (aNil))
def L16_1 : En → O := sSet 2 (eDraw (ArD 2 m__law_some_ring) (aCons (eVar 0) (aCons (eVar 1) (aNil))))
def L16_2 : En → O := sIf (bT (eOp2 gEq (eDraw (ArD 3 m__law_draw) (aCons (eVar 0) (aCons (eVar 1) (aCons (eC (.int 2)) (aNil))))) (eC (.int 0)))) (sSet 2 (eDraw (ArD 2 m__law_some_field) (aCons (eVar 0) (aCons (eVar 1) (aNil))))) (sNil)
def L16_3 : En → O := sSet 3 (eCall (Ar 1 m_parse_ring) (aCons (eCall (Ar 1 m_format_ring) (aCons (eVar 2) (aNil))) (aNil)))
def L16_4 : En → O := sIf (bT (eOp2 gNe (eVar 3) (eVar 2))) (sRet (eC (.bool false))) (sNil)
def L16_5 : En → O := sIf (bNot (bT (eCall (Ar 1 mm_is_field) (aCons (eVar 3) (aNil))))) (sSeq (sAsg (eCall (Ar 1 m_paper) (aCons (eVar 3) (aNil))) (gT [4, 5]))
  (sRet (eAnd (eOp2 gIs (eCall (Ar 2 m_is_paper) (aCons (eVar 3) (aCons (eTup (aCons (eVar 4) (aCons (eVar 5) (aNil)))) (aNil)))) (eC (.bool true))) (eAnd (eOp2 gEq (eCall (Ar 3 mm_multiply) (aCons (eVar 3) (aCons (eVar 4) (aCons (eVar 5) (aNil))))) (eC (.int 0))) (eOp2 gIsNot (eCall (Ar 1 m_factors) (aCons (eVar 3) (aNil))) (eC .none)))))) (sNil)
def L16_6 : En → O := sSet 6 (eCall (Ar 1 mm_size) (aCons (eVar 3) (aNil)))
def L16_7 : En → O := sSet 7 (eDraw (ArD 3 m__law_pick) (aCons (eVar 0) (aCons (eVar 1) (aCons (eCall (Ar 1 m_generators) (aCons (eVar 3) (aNil))) (aNil)))))
def L16_8 : En → O := sMk 8 (mMake "Reckoner" 3 m_Reckoner___init__ (aCons (eVar 3) (aCons (eC (.int 1)) (aNil))))
def L16_9 : En → O := sFor (lRng rng1 (aCons (eOp2 gSub (eVar 6) (eC (.int 1))) (aNil))) (gN 9) (sSeq (sSet 4 (eMth "Reckoner" "element" 8 1 m_Reckoner_element aNil))
  (sSeq (sIf (bOr (bT (eOp2 gNe (eCall (Ar 3 m_logarithm) (aCons (eVar 3) (aCons (eVar 7) (aCons (eVar 4) (aNil))))) (eVar 9))) (bT (eOp2 gNe (eCall (Ar 3 mm_power) (aCons (eVar 3) (aCons (eVar 7) (aCons (eVar 9) (aNil))))) (eVar 4)))) (sRet (eC (.bool false))) (sNil))
  (sSeq (sIf (bOr (bT (eOp2 gNe (eOp2 gMul (eCall (Ar 2 m_order) (aCons (eVar 3) (aCons (eVar 4) (aNil)))) (eCall (Ar 2 m__law_shared_part) (aCons (eVar 9) (aCons (eOp2 gSub (eVar 6) (eC (.int 1))) (aNil))))) (eOp2 gSub (eVar 6) (eC (.int 1))))) (bT (eOp2 gNe (eCall (Ar 3 mm_multiply) (aCons (eVar 3) (aCons (eVar 4) (aCons (eCall (Ar 2 m_inverse) (aCons (eVar 3) (aCons (eVar 4) (aNil)))) (aNil))))) (eC (.int 1))))) (sRet (eC (.bool false))) (sNil))
  (sDrop (eMth "Reckoner" "multiply" 8 2 m_Reckoner_multiply (aCons (eVar 7) (aNil)))))))
def L16_10 : En → O := sIf (bOr (bT (eOp2 gNe (eMth "Reckoner" "element" 8 1 m_Reckoner_element aNil) (eC (.int 1)))) (bOr (bT (eOp2 gNe (eLenSet (eMth "Reckoner" "path" 8 1 m_Reckoner_path aNil)) (eOp2 gSub (eVar 6) (eC (.int 1))))) (bT (eOp2 gNe (eSpc "Reckoner" 8 m_Reckoner___len__ fitLen) (eOp2 gSub (eVar 6) (eC (.int 1))))))) (sRet (eC (.bool false))) (sNil)
def L16_11 : En → O := sSet 4 (eDraw (ArD 3 m__law_pick) (aCons (eVar 0) (aCons (eVar 1) (aCons (eMth "Reckoner" "path" 8 1 m_Reckoner_path aNil) (aNil)))))
def L16_12 : En → O := sSet 10 (eCall (Ar 2 m_least_polynomial) (aCons (eVar 3) (aCons (eVar 4) (aNil))))
def L16_13 : En → O := sIf (bOr (bT (eOp2 gNe (eCall (Ar 3 m_value) (aCons (eVar 3) (aCons (eVar 10) (aCons (eVar 4) (aNil))))) (eC (.int 0)))) (bT (eOp2 gNe (eB gLen (aCons (eVar 10) (aNil))) (eOp2 gAdd (eB gLen (aCons (eCall (Ar 2 m_conjugates) (aCons (eVar 3) (aCons (eVar 4) (aNil)))) (aNil))) (eC (.int 1)))))) (sRet (eC (.bool false))) (sNil)
def L16_14 : En → O := sFor (lRng rng1 (aCons (eOp2 gSub (eVar 6) (eC (.int 1))) (aNil))) (gN 11) (sDrop (eMth "Reckoner" "undo" 8 1 m_Reckoner_undo aNil))
def L16_15 : En → O := sRet (eAnd (eOp2 gEq (eMth "Reckoner" "path" 8 1 m_Reckoner_path aNil) (eN (nLst (aCons (eC (.int 1)) (aNil))))) (eOp2 gEq (eSpc "Reckoner" 8 m_Reckoner___str__ fitStr) (eOp2 gAdd (eOp2 gAdd (eC (.str "1 (")) (eCall (Ar 1 m_format_ring) (aCons (eVar 3) (aNil)))) (eC (.str ")")))))
def g_law16 : En → O := sSeq L16_0
  (sSeq L16_1
  (sSeq L16_2
  (sSeq L16_3
  (sSeq L16_4
  (sSeq L16_5
  (sSeq L16_6
  (sSeq L16_7
  (sSeq L16_8
  (sSeq L16_9
  (sSeq L16_10
  (sSeq L16_11
  (sSeq L16_12
  (sSeq L16_13
  (sSeq L16_14
  (L16_15)))))))))))))))
def m_law16 : List Int → List D → Rf := runS 12 g_law16
end Pf
namespace Pf
open PySem PySem.Spec PyProof.Rows L2
def top (i : Nat) : Stmt := PySem.Challenge.pw_powerfields_k16_whole_from_text_to_recko.main.body.getD i (.Pass ⟨0, 0, 0, 0⟩)
def dd_is_integer : He.DefD := ⟨("is_integer", none), "is_integer", "is_integer", defArgs (top 16), defBody (top 16), defScope (top 16), [], []⟩
def dd_times_itself : He.DefD := ⟨("times_itself", none), "times_itself", "times_itself", defArgs (top 17), defBody (top 17), defScope (top 17), [], []⟩
def dd_is_ring : He.DefD := ⟨("is_ring", none), "is_ring", "is_ring", defArgs (top 18), defBody (top 18), defScope (top 18), [], []⟩
def dd_check_ring : He.DefD := ⟨("check_ring", none), "check_ring", "check_ring", defArgs (top 19), defBody (top 19), defScope (top 19), [], []⟩
def dd_size_of : He.DefD := ⟨("size_of", none), "size_of", "size_of", defArgs (top 20), defBody (top 20), defScope (top 20), [], []⟩
def dd_size : He.DefD := ⟨("size", none), "size", "size", defArgs (top 21), defBody (top 21), defScope (top 21), [], []⟩
def dd_check_element : He.DefD := ⟨("check_element", none), "check_element", "check_element", defArgs (top 22), defBody (top 22), defScope (top 22), [], []⟩
def dd_check_two : He.DefD := ⟨("check_two", none), "check_two", "check_two", defArgs (top 23), defBody (top 23), defScope (top 23), [], []⟩
def dd_digits_of : He.DefD := ⟨("digits_of", none), "digits_of", "digits_of", defArgs (top 24), defBody (top 24), defScope (top 24), [], []⟩
def dd_element_of : He.DefD := ⟨("element_of", none), "element_of", "element_of", defArgs (top 25), defBody (top 25), defScope (top 25), [], []⟩
def dd_plus : He.DefD := ⟨("plus", none), "plus", "plus", defArgs (top 26), defBody (top 26), defScope (top 26), [], []⟩
def dd_times : He.DefD := ⟨("times", none), "times", "times", defArgs (top 27), defBody (top 27), defScope (top 27), [], []⟩
def dd_minus : He.DefD := ⟨("minus", none), "minus", "minus", defArgs (top 28), defBody (top 28), defScope (top 28), [], []⟩
def dd_raised : He.DefD := ⟨("raised", none), "raised", "raised", defArgs (top 29), defBody (top 29), defScope (top 29), [], []⟩
def dd_multiply : He.DefD := ⟨("multiply", none), "multiply", "multiply", defArgs (top 30), defBody (top 30), defScope (top 30), [], []⟩
def dd_power : He.DefD := ⟨("power", none), "power", "power", defArgs (top 31), defBody (top 31), defScope (top 31), [], []⟩
def dd_text_of : He.DefD := ⟨("text_of", none), "text_of", "text_of", defArgs (top 34), defBody (top 34), defScope (top 34), [], []⟩
def dd_format_ring : He.DefD := ⟨("format_ring", none), "format_ring", "format_ring", defArgs (top 35), defBody (top 35), defScope (top 35), [], []⟩
def dd_parse_ring : He.DefD := ⟨("parse_ring", none), "parse_ring", "parse_ring", defArgs (top 36), defBody (top 36), defScope (top 36), [], []⟩
def dd_divided : He.DefD := ⟨("divided", none), "divided", "divided", defArgs (top 38), defBody (top 38), defScope (top 38), [], []⟩
def dd_lower_parts : He.DefD := ⟨("lower_parts", none), "lower_parts", "lower_parts", defArgs (top 39), defBody (top 39), defScope (top 39), [], []⟩
def dd_split : He.DefD := ⟨("split", none), "split", "split", defArgs (top 40), defBody (top 40), defScope (top 40), [], []⟩
def dd_is_field : He.DefD := ⟨("is_field", none), "is_field", "is_field", defArgs (top 41), defBody (top 41), defScope (top 41), [], []⟩
def dd_check_field : He.DefD := ⟨("check_field", none), "check_field", "check_field", defArgs (top 42), defBody (top 42), defScope (top 42), [], []⟩
def dd_factors : He.DefD := ⟨("factors", none), "factors", "factors", defArgs (top 43), defBody (top 43), defScope (top 43), [], []⟩
def dd_paper : He.DefD := ⟨("paper", none), "paper", "paper", defArgs (top 44), defBody (top 44), defScope (top 44), [], []⟩
def dd_is_paper : He.DefD := ⟨("is_paper", none), "is_paper", "is_paper", defArgs (top 45), defBody (top 45), defScope (top 45), [], []⟩
def dd_path_of : He.DefD := ⟨("path_of", none), "path_of", "path_of", defArgs (top 47), defBody (top 47), defScope (top 47), [], []⟩
def dd_check_both : He.DefD := ⟨("check_both", none), "check_both", "check_both", defArgs (top 48), defBody (top 48), defScope (top 48), [], []⟩
def dd_conjugates : He.DefD := ⟨("conjugates", none), "conjugates", "conjugates", defArgs (top 49), defBody (top 49), defScope (top 49), [], []⟩
def dd_least_polynomial : He.DefD := ⟨("least_polynomial", none), "least_polynomial", "least_polynomial", defArgs (top 50), defBody (top 50), defScope (top 50), [], []⟩
def dd_check_nonzero : He.DefD := ⟨("check_nonzero", none), "check_nonzero", "check_nonzero", defArgs (top 52), defBody (top 52), defScope (top 52), [], []⟩
def dd_inverse_of : He.DefD := ⟨("inverse_of", none), "inverse_of", "inverse_of", defArgs (top 53), defBody (top 53), defScope (top 53), [], []⟩
def dd_inverse : He.DefD := ⟨("inverse", none), "inverse", "inverse", defArgs (top 54), defBody (top 54), defScope (top 54), [], []⟩
def dd_order_of : He.DefD := ⟨("order_of", none), "order_of", "order_of", defArgs (top 55), defBody (top 55), defScope (top 55), [], []⟩
def dd_order : He.DefD := ⟨("order", none), "order", "order", defArgs (top 56), defBody (top 56), defScope (top 56), [], []⟩
def dd_generators : He.DefD := ⟨("generators", none), "generators", "generators", defArgs (top 57), defBody (top 57), defScope (top 57), [], []⟩
def dd_logarithm : He.DefD := ⟨("logarithm", none), "logarithm", "logarithm", defArgs (top 58), defBody (top 58), defScope (top 58), [], []⟩
def dd_Reckoner___init__ : He.DefD := ⟨("Reckoner", some "__init__"), "__init__", "Reckoner.__init__", defArgs (cm (top 60) 0), defBody (cm (top 60) 0), defScope (cm (top 60) 0), [], []⟩
def dd_Reckoner_multiply : He.DefD := ⟨("Reckoner", some "multiply"), "multiply", "Reckoner.multiply", defArgs (cm (top 60) 2), defBody (cm (top 60) 2), defScope (cm (top 60) 2), [], []⟩
def dd_Reckoner_element : He.DefD := ⟨("Reckoner", some "element"), "element", "Reckoner.element", defArgs (cm (top 60) 3), defBody (cm (top 60) 3), defScope (cm (top 60) 3), [], []⟩
def dd_Reckoner_path : He.DefD := ⟨("Reckoner", some "path"), "path", "Reckoner.path", defArgs (cm (top 60) 4), defBody (cm (top 60) 4), defScope (cm (top 60) 4), [], []⟩
def dd_Reckoner_undo : He.DefD := ⟨("Reckoner", some "undo"), "undo", "Reckoner.undo", defArgs (cm (top 60) 5), defBody (cm (top 60) 5), defScope (cm (top 60) 5), [], []⟩
def dd_Reckoner___len__ : He.DefD := ⟨("Reckoner", some "__len__"), "__len__", "Reckoner.__len__", defArgs (cm (top 60) 8), defBody (cm (top 60) 8), defScope (cm (top 60) 8), [], []⟩
def dd_Reckoner___str__ : He.DefD := ⟨("Reckoner", some "__str__"), "__str__", "Reckoner.__str__", defArgs (cm (top 60) 9), defBody (cm (top 60) 9), defScope (cm (top 60) 9), [], []⟩
def dd_are_elements : He.DefD := ⟨("are_elements", none), "are_elements", "are_elements", defArgs (top 62), defBody (top 62), defScope (top 62), [], []⟩
def dd_value_at : He.DefD := ⟨("value_at", none), "value_at", "value_at", defArgs (top 63), defBody (top 63), defScope (top 63), [], []⟩
def dd_value : He.DefD := ⟨("value", none), "value", "value", defArgs (top 64), defBody (top 64), defScope (top 64), [], []⟩
def dd__law_cell_at : He.DefD := ⟨("_law_cell_at", none), "_law_cell_at", "_law_cell_at", defArgs (top 66), defBody (top 66), defScope (top 66), [], []⟩
def dd__law_mixed : He.DefD := ⟨("_law_mixed", none), "_law_mixed", "_law_mixed", defArgs (top 67), defBody (top 67), defScope (top 67), [], []⟩
def dd__law_draw : He.DefD := ⟨("_law_draw", none), "_law_draw", "_law_draw", defArgs (top 68), defBody (top 68), defScope (top 68), [], []⟩
def dd__law_pick : He.DefD := ⟨("_law_pick", none), "_law_pick", "_law_pick", defArgs (top 69), defBody (top 69), defScope (top 69), [], []⟩
def dd__law_some_ring : He.DefD := ⟨("_law_some_ring", none), "_law_some_ring", "_law_some_ring", defArgs (top 70), defBody (top 70), defScope (top 70), [], []⟩
def dd__law_known_fields : He.DefD := ⟨("_law_known_fields", none), "_law_known_fields", "_law_known_fields", defArgs (top 71), defBody (top 71), defScope (top 71), [], []⟩
def dd__law_some_field : He.DefD := ⟨("_law_some_field", none), "_law_some_field", "_law_some_field", defArgs (top 72), defBody (top 72), defScope (top 72), [], []⟩
def dd__law_shared_part : He.DefD := ⟨("_law_shared_part", none), "_law_shared_part", "_law_shared_part", defArgs (top 73), defBody (top 73), defScope (top 73), [], []⟩
def dd_law : He.DefD := ⟨("law", none), "law", "law", defArgs (top 74), defBody (top 74), defScope (top 74), [], []⟩
def fn : List He.DefD := [dd_is_integer, dd_times_itself, dd_is_ring, dd_check_ring, dd_size_of, dd_size, dd_check_element, dd_check_two, dd_digits_of, dd_element_of, dd_plus, dd_times, dd_minus, dd_raised, dd_multiply, dd_power, dd_text_of, dd_format_ring, dd_parse_ring, dd_divided, dd_lower_parts, dd_split, dd_is_field, dd_check_field, dd_factors, dd_paper, dd_is_paper, dd_path_of, dd_check_both, dd_conjugates, dd_least_polynomial, dd_check_nonzero, dd_inverse_of, dd_inverse, dd_order_of, dd_order, dd_generators, dd_logarithm, dd_Reckoner___init__, dd_Reckoner_multiply, dd_Reckoner_element, dd_Reckoner_path, dd_Reckoner_undo, dd_Reckoner___len__, dd_Reckoner___str__, dd_are_elements, dd_value_at, dd_value, dd__law_cell_at, dd__law_mixed, dd__law_draw, dd__law_pick, dd__law_some_ring, dd__law_known_fields, dd__law_some_field, dd__law_shared_part, dd_law]
def fa : List He.Fa := [.free "isinstance", .free "int", .free "bool", .glo "is_integer", .free "range", .glo "times_itself", .free "tuple", .free "len", .glo "PRIMES", .int "MOST" 32, .free "all", .glo "is_ring", .exc "InvalidRing", .glo "InvalidRing", .glo "check_ring", .glo "size_of", .glo "size", .exc "InvalidElement", .glo "InvalidElement", .glo "check_element", .glo "check_two", .glo "digits_of", .glo "element_of", .free "zip", .glo "plus", .free "enumerate", .glo "times", .glo "minus", .glo "raised", .glo "multiply", .exc "InvalidNumber", .glo "InvalidNumber", .glo "power", .free "str", .glo "text_of", .glo "format_ring", .exc "ParseError", .glo "ParseError", .str "DIGITS" "0123456789", .glo "parse_ring", .free "list", .free "max", .glo "divided", .glo "lower_parts", .glo "split", .glo "is_field", .exc "NotField", .glo "NotField", .glo "check_field", .glo "factors", .exc "IsField", .glo "IsField", .glo "paper", .glo "is_paper", .glo "path_of", .glo "check_both", .free "sorted", .free "set", .glo "conjugates", .glo "least_polynomial", .exc "IsZero", .glo "IsZero", .glo "check_nonzero", .glo "inverse_of", .glo "inverse", .glo "order_of", .glo "order", .glo "generators", .exc "NotGenerator", .glo "NotGenerator", .glo "logarithm", .cls "Reckoner", .noat "Reckoner" "field", .noat "Reckoner" "trail", .noat "Reckoner" "kept", .mkr "Reckoner", .glo "Reckoner", .meth "Reckoner" "multiply", .meth "Reckoner" "element", .meth "Reckoner" "path", .exc "NothingToUndo", .glo "NothingToUndo", .meth "Reckoner" "undo", .meth "Reckoner" "__len__", .meth "Reckoner" "__str__", .glo "are_elements", .glo "value_at", .exc "InvalidValues", .glo "InvalidValues", .glo "value", .free "min", .glo "_law_cell_at", .glo "_law_mixed", .glo "_law_draw", .glo "_law_pick", .glo "_law_some_ring", .glo "_law_known_fields", .glo "_law_some_field", .glo "_law_shared_part", .glo "law"]
def ex (K : PySem.W.Frag) : Bool := true && tupI K "PRIMES" [2, 3, 5, 7, 11, 13, 17, 19, 23, 29, 31]
abbrev OkL (K : PySem.W.Frag) (mg : Str → Option Value) : Prop := Ok fa fn ex K mg
section
variable {P : Program} {w : World} {K : PySem.W.Frag} {mg : Str → Option Value} {base : Heap}
theorem gt_PRIMES (c : OkL K mg) (F : Hp) : Dq K F (.ref (He.ga K "PRIMES")) (.tuple [.int 2, .int 3, .int 5, .int 7, .int 11, .int 13, .int 17, .int 19, .int 23, .int 29, .int 31]) := tupI_dq (ns := [2, 3, 5, 7, 11, 13, 17, 19, 23, 29, 31]) (He.ba c.x).2 F
theorem fs_is_integer : FnScope ["value", "low", "high"] ["value", "low", "high"] (defScope (top 16)) := ⟨rfl, rfl, rfl, by decide +kernel, rfl, by decide +kernel, by decide +kernel⟩
theorem ok_is_integer (c : OkL K mg) : Fn P w K mg base 1 "is_integer" (spP K 3 m_is_integer) :=
  mkP (N := ["value", "low", "high"]) (ps := ["value", "low", "high"]) (c.def_ 0 (d := dd_is_integer) rfl) (c.glo 3) fs_is_integer (fun _ _ _ _ _ _ us hl => match us, hl with | [_, _, _], _ => rfl) fun f cdv A outer s H E hr tk hp =>
    have hN := (fs_is_integer).nd
    jb_one (js_ret (je_and (je_isi isInt rfl (c.free 0) rfl (c.free 1) boot_int (je_var (i := 0) rfl (.inl rfl))) (je_and (je_not (je_isi isBool rfl (c.free 0) rfl (c.free 2) boot_bool (je_var (i := 0) rfl (.inl rfl)))) (je_one (je_chain op_le d_cmp op_le d_cmp (je_var (i := 1) rfl (.inl rfl)) (je_var (i := 0) rfl (.inl rfl)) (je_var (i := 2) rfl (.inl rfl)))))))
theorem fs_times_itself : FnScope ["p", "count", "result", "again"] ["p", "count"] (defScope (top 17)) := ⟨rfl, rfl, rfl, by decide +kernel, rfl, by decide +kernel, by decide +kernel⟩
theorem ok_times_itself (c : OkL K mg) : Fn P w K mg base 1 "times_itself" (spP K 2 m_times_itself) :=
  mkP (N := ["p", "count", "result", "again"]) (ps := ["p", "count"]) (c.def_ 1 (d := dd_times_itself) rfl) (c.glo 5) fs_times_itself (fun _ _ _ _ _ _ us hl => match us, hl with | [_, _], _ => rfl) fun f cdv A outer s H E hr tk hp =>
    have hN := (fs_times_itself).nd
    jb_cons (js_set (i := 2) hN rfl (.inl rfl) (je_int))
    (jb_cons (js_for hp rfl (ji_range1 rfl (c.free 4) (ja_cons (je_var (i := 1) rfl (.inl rfl)) (ja_nil))) (jg_name (i := 3) hN rfl (.inl rfl)) (jb_one (js_aug (i := 2) iop_mul d_mulI hN rfl (.inl rfl) (je_var (i := 0) rfl (.inl rfl)))))
    (jb_one (js_ret (je_var (i := 2) rfl (.inl rfl)))))
theorem fs_is_ring : FnScope ["value", "p", "lower", "one"] ["value"] (defScope (top 18)) := ⟨rfl, rfl, rfl, by decide +kernel, rfl, by decide +kernel, by decide +kernel⟩
theorem ok_is_ring (c : OkL K mg) : Fn P w K mg base 2 "is_ring" (spP K 1 m_is_ring) :=
  mkP (N := ["value", "p", "lower", "one"]) (ps := ["value"]) (c.def_ 2 (d := dd_is_ring) rfl) (c.glo 11) fs_is_ring (fun _ _ _ _ _ _ us hl => match us, hl with | [_], _ => rfl) fun f cdv A outer s H E hr tk hp =>
    have hN := (fs_is_ring).nd
    jb_cons (js_if (jw_t (jw_or (jt_not (jt_val (je_isi isTup rfl (c.free 0) rfl (c.free 6) boot_tuple (je_var (i := 0) rfl (.inl rfl))))) (jw_or1 (jt_cmp (op_neD hr.units) d_ne (je_callB c_len d_len rfl (c.free 7) boot_len (ja_cons (je_var (i := 0) rfl (.inl rfl)) (ja_nil))) (je_int) (nomark _))))) (jb_one (js_ret (je_bl))) (jb_nil))
    (jb_cons (js_asg (je_var (i := 0) rfl (.inl rfl)) (jg_tup rfl (jgs_cons (i := 1) hN rfl (.inr rfl) (jgs_cons (i := 2) hN rfl (.inl rfl) (jgs_nil)))))
    (jb_cons (js_if (jw_t (jw_or (jt_not (jt_val (je_fn (ok_is_integer c) (hr.mono (by decide)) rfl tk (ja_cons (je_var (i := 1) rfl (.inr (.inl rfl))) (ja_cons (je_int) (ja_cons (je_int) (ja_nil))))))) (jw_or (jt_cmp (o_notin (ru65 hr)) d_notin (je_var (i := 1) rfl (.inr (.inl rfl))) (je_gref rfl (c.glo 8) (gt_PRIMES c)) (by with_unfolding_all rfl)) (jw_or (jt_not (jt_val (je_isi isTup rfl (c.free 0) rfl (c.free 6) boot_tuple (je_var (i := 2) rfl (.inl rfl))))) (jw_or1 (jt_not (jt_chain op_le d_cmp op_le d_cmp (je_int) (je_callB c_len d_len rfl (c.free 7) boot_len (ja_cons (je_var (i := 2) rfl (.inl rfl)) (ja_nil))) (je_int)))))))) (jb_one (js_ret (je_bl))) (jb_nil))
    (jb_one (js_ret (je_and (je_cmp op_le d_cmp (je_fn (ok_times_itself c) (hr.mono (by decide)) rfl tk (ja_cons (je_var (i := 1) rfl (.inr (.inl rfl))) (ja_cons (je_callB c_len d_len rfl (c.free 7) boot_len (ja_cons (je_var (i := 2) rfl (.inl rfl)) (ja_nil))) (ja_nil)))) (je_gint rfl (c.int 9)) (nomark _)) (je_one (je_callB (cr_all rfl) d_all rfl (c.free 10) boot_all (ja_cons (je_new (jn_lc rfl hN (ji_seq (je_var (i := 2) rfl (.inl rfl))) (blkOk_by (own := [("one", 3)]) (by kernel_rfl)) (tgt_name 3) rfl (by decide) (fun _ _ _ _ _ => pg_name hN rfl (.inl rfl)) (fun _ _ _ _ _ => jts_nil) (fun _ _ _ _ _ => je_fn (ok_is_integer c) (hr.mono (by decide)) rfl takes_no (ja_cons (je_var (i := 3) rfl (.inl rfl)) (ja_cons (je_int) (ja_cons (je_op2 op_sub d_sub (je_var (i := 1) rfl (.inr (.inl rfl))) (je_int)) (ja_nil))))))) (ja_nil)))))))))
theorem okm_is_ring (c : OkL K mg) : Fn P w K mg base 2 "is_ring" (spP K 1 mm_is_ring) := by rw [me_is_ring]; exact ok_is_ring c
theorem fs_check_ring : FnScope ["ring"] ["ring"] (defScope (top 19)) := ⟨rfl, rfl, rfl, by decide +kernel, rfl, by decide +kernel, by decide +kernel⟩
theorem ok_check_ring (c : OkL K mg) : Fn P w K mg base 3 "check_ring" (spP K 1 m_check_ring) :=
  mkP (N := ["ring"]) (ps := ["ring"]) (c.def_ 3 (d := dd_check_ring) rfl) (c.glo 14) fs_check_ring (fun _ _ _ _ _ _ us hl => match us, hl with | [_], _ => rfl) fun f cdv A outer s H E hr tk hp =>
    have hN := (fs_check_ring).nd
    jb_one (js_if (jt_not (jt_val (je_fn (ok_is_ring c) (hr.mono (by decide)) rfl tk (ja_cons (je_var (i := 0) rfl (.inl rfl)) (ja_nil))))) (jb_one (js_raiseF (c.exc 12) (c.glo 13) rfl tk rfl)) (jb_nil))
theorem okm_check_ring (c : OkL K mg) : Fn P w K mg base 3 "check_ring" (spP K 1 mm_check_ring) := by rw [me_check_ring]; exact ok_check_ring c
theorem fs_size_of : FnScope ["ring"] ["ring"] (defScope (top 20)) := ⟨rfl, rfl, rfl, by decide +kernel, rfl, by decide +kernel, by decide +kernel⟩
theorem ok_size_of (c : OkL K mg) : Fn P w K mg base 2 "size_of" (spP K 1 m_size_of) :=
  mkP (N := ["ring"]) (ps := ["ring"]) (c.def_ 4 (d := dd_size_of) rfl) (c.glo 15) fs_size_of (fun _ _ _ _ _ _ us hl => match us, hl with | [_], _ => rfl) fun f cdv A outer s H E hr tk hp =>
    have hN := (fs_size_of).nd
    jb_one (js_ret (je_fn (ok_times_itself c) (hr.mono (by decide)) rfl tk (ja_cons (je_ix (je_var (i := 0) rfl (.inl rfl)) (je_int)) (ja_cons (je_callB c_len d_len rfl (c.free 7) boot_len (ja_cons (je_ix (je_var (i := 0) rfl (.inl rfl)) (je_int)) (ja_nil))) (ja_nil)))))
theorem okm_size_of (c : OkL K mg) : Fn P w K mg base 2 "size_of" (spP K 1 mm_size_of) := by rw [me_size_of]; exact ok_size_of c
theorem fs_size : FnScope ["ring"] ["ring"] (defScope (top 21)) := ⟨rfl, rfl, rfl, by decide +kernel, rfl, by decide +kernel, by decide +kernel⟩
theorem ok_size (c : OkL K mg) : Fn P w K mg base 4 "size" (spP K 1 m_size) :=
  mkP (N := ["ring"]) (ps := ["ring"]) (c.def_ 5 (d := dd_size) rfl) (c.glo 16) fs_size (fun _ _ _ _ _ _ us hl => match us, hl with | [_], _ => rfl) fun f cdv A outer s H E hr tk hp =>
    have hN := (fs_size).nd
    jb_cons (js_expr (je_fn (ok_check_ring c) (hr.mono (by decide)) rfl tk (ja_cons (je_var (i := 0) rfl (.inl rfl)) (ja_nil))))
    (jb_one (js_ret (je_fn (ok_size_of c) (hr.mono (by decide)) rfl tk (ja_cons (je_var (i := 0) rfl (.inl rfl)) (ja_nil)))))
theorem okm_size (c : OkL K mg) : Fn P w K mg base 4 "size" (spP K 1 mm_size) := by rw [me_size]; exact ok_size c
theorem fs_check_element : FnScope ["ring", "x"] ["ring", "x"] (defScope (top 22)) := ⟨rfl, rfl, rfl, by decide +kernel, rfl, by decide +kernel, by decide +kernel⟩
theorem ok_check_element (c : OkL K mg) : Fn P w K mg base 3 "check_element" (spP K 2 m_check_element) :=
  mkP (N := ["ring", "x"]) (ps := ["ring", "x"]) (c.def_ 6 (d := dd_check_element) rfl) (c.glo 19) fs_check_element (fun _ _ _ _ _ _ us hl => match us, hl with | [_, _], _ => rfl) fun f cdv A outer s H E hr tk hp =>
    have hN := (fs_check_element).nd
    jb_one (js_if (jt_not (jt_val (je_fn (ok_is_integer c) (hr.mono (by decide)) rfl tk (ja_cons (je_var (i := 1) rfl (.inl rfl)) (ja_cons (je_int) (ja_cons (je_op2 op_sub d_sub (je_fn (ok_size_of c) (hr.mono (by decide)) rfl tk (ja_cons (je_var (i := 0) rfl (.inl rfl)) (ja_nil))) (je_int)) (ja_nil))))))) (jb_one (js_raiseF (c.exc 17) (c.glo 18) rfl tk rfl)) (jb_nil))
theorem okm_check_element (c : OkL K mg) : Fn P w K mg base 3 "check_element" (spP K 2 mm_check_element) := by rw [me_check_element]; exact ok_check_element c
theorem fs_check_two : FnScope ["ring", "x", "y"] ["ring", "x", "y"] (defScope (top 23)) := ⟨rfl, rfl, rfl, by decide +kernel, rfl, by decide +kernel, by decide +kernel⟩
theorem ok_check_two (c : OkL K mg) : Fn P w K mg base 4 "check_two" (spP K 3 m_check_two) :=
  mkP (N := ["ring", "x", "y"]) (ps := ["ring", "x", "y"]) (c.def_ 7 (d := dd_check_two) rfl) (c.glo 20) fs_check_two (fun _ _ _ _ _ _ us hl => match us, hl with | [_, _, _], _ => rfl) fun f cdv A outer s H E hr tk hp =>
    have hN := (fs_check_two).nd
    jb_cons (js_expr (je_fn (ok_check_ring c) (hr.mono (by decide)) rfl tk (ja_cons (je_var (i := 0) rfl (.inl rfl)) (ja_nil))))
    (jb_cons (js_expr (je_fn (ok_check_element c) (hr.mono (by decide)) rfl tk (ja_cons (je_var (i := 0) rfl (.inl rfl)) (ja_cons (je_var (i := 1) rfl (.inl rfl)) (ja_nil)))))
    (jb_one (js_expr (je_fn (ok_check_element c) (hr.mono (by decide)) rfl tk (ja_cons (je_var (i := 0) rfl (.inl rfl)) (ja_cons (je_var (i := 2) rfl (.inl rfl)) (ja_nil)))))))
theorem okm_check_two (c : OkL K mg) : Fn P w K mg base 4 "check_two" (spP K 3 mm_check_two) := by rw [me_check_two]; exact ok_check_two c
theorem fs_digits_of : FnScope ["ring", "x", "result", "again"] ["ring", "x"] (defScope (top 24)) := ⟨rfl, rfl, rfl, by decide +kernel, rfl, by decide +kernel, by decide +kernel⟩
theorem ok_digits_of (c : OkL K mg) : Fn P w K mg base 1 "digits_of" (spP K 2 m_digits_of) :=
  mkP (N := ["ring", "x", "result", "again"]) (ps := ["ring", "x"]) (c.def_ 8 (d := dd_digits_of) rfl) (c.glo 21) fs_digits_of (fun _ _ _ _ _ _ us hl => match us, hl with | [_, _], _ => rfl) fun f cdv A outer s H E hr tk hp =>
    have hN := (fs_digits_of).nd
    jb_cons (js_own (i := 2) hN rfl (.inl rfl) (jn_lst (ja_nil)))
    (jb_cons (js_for hp rfl (ji_seq (je_ix (je_var (i := 0) rfl (.inl rfl)) (je_int))) (jg_name (i := 3) hN rfl (.inl rfl)) (jb_cons (js_expr (je_append (i := 2) rfl (.inl rfl) (je_op2 op_mod d_mod (je_var (i := 1) rfl (.inl rfl)) (je_ix (je_var (i := 0) rfl (.inl rfl)) (je_int)))))
    (jb_one (js_set (i := 1) hN rfl (.inl rfl) (je_op2 op_fdiv d_fdiv (je_var (i := 1) rfl (.inl rfl)) (je_ix (je_var (i := 0) rfl (.inl rfl)) (je_int)))))))
    (jb_one (js_ret (je_var (i := 2) rfl (.inl rfl)))))
theorem fs_element_of : FnScope ["ring", "coefficients", "x", "one"] ["ring", "coefficients"] (defScope (top 25)) := ⟨rfl, rfl, rfl, by decide +kernel, rfl, by decide +kernel, by decide +kernel⟩
theorem ok_element_of (c : OkL K mg) : Fn P w K mg base 1 "element_of" (spP K 2 m_element_of) :=
  mkP (N := ["ring", "coefficients", "x", "one"]) (ps := ["ring", "coefficients"]) (c.def_ 9 (d := dd_element_of) rfl) (c.glo 22) fs_element_of (fun _ _ _ _ _ _ us hl => match us, hl with | [_, _], _ => rfl) fun f cdv A outer s H E hr tk hp =>
    have hN := (fs_element_of).nd
    jb_cons (js_set (i := 2) hN rfl (.inl rfl) (je_int))
    (jb_cons (js_for hp rfl (ji_seq (je_rev (je_var (i := 1) rfl (.inl rfl)))) (jg_name (i := 3) hN rfl (.inl rfl)) (jb_one (js_set (i := 2) hN rfl (.inl rfl) (je_op2 o_add d_add (je_op2 o_mul d_mul (je_var (i := 2) rfl (.inl rfl)) (je_ix (je_var (i := 0) rfl (.inl rfl)) (je_int))) (je_op2 op_mod d_mod (je_var (i := 3) rfl (.inl rfl)) (je_ix (je_var (i := 0) rfl (.inl rfl)) (je_int)))))))
    (jb_one (js_ret (je_var (i := 2) rfl (.inl rfl)))))
theorem fs_plus : FnScope ["ring", "x", "y", "one", "other"] ["ring", "x", "y"] (defScope (top 26)) := ⟨rfl, rfl, rfl, by decide +kernel, rfl, by decide +kernel, by decide +kernel⟩
theorem ok_plus (c : OkL K mg) : Fn P w K mg base 2 "plus" (spP K 3 m_plus) :=
  mkP (N := ["ring", "x", "y", "one", "other"]) (ps := ["ring", "x", "y"]) (c.def_ 10 (d := dd_plus) rfl) (c.glo 24) fs_plus (fun _ _ _ _ _ _ us hl => match us, hl with | [_, _, _], _ => rfl) fun f cdv A outer s H E hr tk hp =>
    have hN := (fs_plus).nd
    jb_one (js_ret (je_fn (ok_element_of c) (hr.mono (by decide)) rfl tk (ja_cons (je_var (i := 0) rfl (.inl rfl)) (ja_cons (je_new (jn_lc rfl hN (ji_zip rfl (c.free 23) (ja_cons (je_fn (ok_digits_of c) (hr.mono (by decide)) rfl tk (ja_cons (je_var (i := 0) rfl (.inl rfl)) (ja_cons (je_var (i := 1) rfl (.inl rfl)) (ja_nil)))) (ja_cons (je_fn (ok_digits_of c) (hr.mono (by decide)) rfl tk (ja_cons (je_var (i := 0) rfl (.inl rfl)) (ja_cons (je_var (i := 2) rfl (.inl rfl)) (ja_nil)))) (ja_nil)))) (blkOk_by (own := [("one", 3), ("other", 4)]) (by kernel_rfl)) (tgt_two (by decide)) rfl (by decide) (fun _ _ _ _ _ => pg_tup rfl (pgs_cons (pg_name hN rfl (.inl rfl)) (pgs_cons (pg_name hN rfl (.inl rfl)) pgs_nil))) (fun _ _ _ _ _ => jts_nil) (fun _ _ _ _ _ => je_op2 o_add d_add (je_var (i := 3) rfl (.inl rfl)) (je_var (i := 4) rfl (.inl rfl))))) (ja_nil)))))
theorem okm_plus (c : OkL K mg) : Fn P w K mg base 2 "plus" (spP K 3 mm_plus) := by rw [me_plus]; exact ok_plus c
theorem fs_times : FnScope ["ring", "x", "y", "p", "lower", "count", "product", "i", "one", "j", "other", "at"] ["ring", "x", "y"] (defScope (top 27)) := ⟨rfl, rfl, rfl, by decide +kernel, rfl, by decide +kernel, by decide +kernel⟩
theorem ok_times (c : OkL K mg) : Fn P w K mg base 2 "times" (spP K 3 m_times) :=
  mkP (N := ["ring", "x", "y", "p", "lower", "count", "product", "i", "one", "j", "other", "at"]) (ps := ["ring", "x", "y"]) (c.def_ 11 (d := dd_times) rfl) (c.glo 26) fs_times (fun _ _ _ _ _ _ us hl => match us, hl with | [_, _, _], _ => rfl) fun f cdv A outer s H E hr tk hp =>
    have hN := (fs_times).nd
    jb_cons (js_asg (je_var (i := 0) rfl (.inl rfl)) (jg_tup rfl (jgs_cons (i := 3) hN rfl (.inl rfl) (jgs_cons (i := 4) hN rfl (.inl rfl) (jgs_nil)))))
    (jb_cons (js_set (i := 5) hN rfl (.inl rfl) (je_callB c_len d_len rfl (c.free 7) boot_len (ja_cons (je_var (i := 4) rfl (.inl rfl)) (ja_nil))))
    (jb_cons (js_own (i := 6) hN rfl (.inl rfl) (jn_op2 op_rep dn_rep (je_new (jn_lst (ja_cons (je_int) (ja_nil)))) (je_op2 o_mul d_mul (je_int) (je_var (i := 5) rfl (.inl rfl)))))
    (jb_cons (js_for hp rfl (ji_enum rfl (c.free 25) (ja_cons (je_fn (ok_digits_of c) (hr.mono (by decide)) rfl tk (ja_cons (je_var (i := 0) rfl (.inl rfl)) (ja_cons (je_var (i := 1) rfl (.inl rfl)) (ja_nil)))) (ja_nil))) (jg_tup rfl (jgs_cons (i := 7) hN rfl (.inl rfl) (jgs_cons (i := 8) hN rfl (.inl rfl) (jgs_nil)))) (jb_one (js_for hp rfl (ji_enum rfl (c.free 25) (ja_cons (je_fn (ok_digits_of c) (hr.mono (by decide)) rfl tk (ja_cons (je_var (i := 0) rfl (.inl rfl)) (ja_cons (je_var (i := 2) rfl (.inl rfl)) (ja_nil)))) (ja_nil))) (jg_tup rfl (jgs_cons (i := 9) hN rfl (.inl rfl) (jgs_cons (i := 10) hN rfl (.inl rfl) (jgs_nil)))) (jb_one (js_itemAug (i := 6) ip_add rfl (.inl rfl) (je_op2 o_add d_add (je_var (i := 7) rfl (.inl rfl)) (je_var (i := 9) rfl (.inl rfl))) (je_op2 o_mul d_mul (je_var (i := 8) rfl (.inl rfl)) (je_var (i := 10) rfl (.inl rfl))))))))
    (jb_cons (js_for hp rfl (ji_range3 rfl (c.free 4) (ja_cons (je_op2 op_sub d_sub (je_op2 o_mul d_mul (je_int) (je_var (i := 5) rfl (.inl rfl))) (je_int)) (ja_cons (je_op2 op_sub d_sub (je_var (i := 5) rfl (.inl rfl)) (je_int)) (ja_cons (je_neg (je_int)) (ja_nil))))) (jg_name (i := 11) hN rfl (.inl rfl)) (jb_one (js_for hp rfl (ji_enum rfl (c.free 25) (ja_cons (je_var (i := 4) rfl (.inl rfl)) (ja_nil))) (jg_tup rfl (jgs_cons (i := 7) hN rfl (.inl rfl) (jgs_cons (i := 8) hN rfl (.inl rfl) (jgs_nil)))) (jb_one (js_itemAug (i := 6) ip_sub rfl (.inl rfl) (je_op2 o_add d_add (je_op2 op_sub d_sub (je_var (i := 11) rfl (.inl rfl)) (je_var (i := 5) rfl (.inl rfl))) (je_var (i := 7) rfl (.inl rfl))) (je_op2 o_mul d_mul (je_var (i := 8) rfl (.inl rfl)) (je_ix (je_var (i := 6) rfl (.inl rfl)) (je_var (i := 11) rfl (.inl rfl)))))))))
    (jb_one (js_ret (je_fn (ok_element_of c) (hr.mono (by decide)) rfl tk (ja_cons (je_var (i := 0) rfl (.inl rfl)) (ja_cons (je_cut (je_var (i := 6) rfl (.inl rfl)) (jo_none) (jo_some (je_var (i := 5) rfl (.inl rfl)))) (ja_nil))))))))))
theorem okm_times (c : OkL K mg) : Fn P w K mg base 2 "times" (spP K 3 mm_times) := by rw [me_times]; exact ok_times c
theorem fs_minus : FnScope ["ring", "x", "one"] ["ring", "x"] (defScope (top 28)) := ⟨rfl, rfl, rfl, by decide +kernel, rfl, by decide +kernel, by decide +kernel⟩
theorem ok_minus (c : OkL K mg) : Fn P w K mg base 2 "minus" (spP K 2 m_minus) :=
  mkP (N := ["ring", "x", "one"]) (ps := ["ring", "x"]) (c.def_ 12 (d := dd_minus) rfl) (c.glo 27) fs_minus (fun _ _ _ _ _ _ us hl => match us, hl with | [_, _], _ => rfl) fun f cdv A outer s H E hr tk hp =>
    have hN := (fs_minus).nd
    jb_one (js_ret (je_fn (ok_element_of c) (hr.mono (by decide)) rfl tk (ja_cons (je_var (i := 0) rfl (.inl rfl)) (ja_cons (je_new (jn_lc rfl hN (ji_seq (je_fn (ok_digits_of c) (hr.mono (by decide)) rfl tk (ja_cons (je_var (i := 0) rfl (.inl rfl)) (ja_cons (je_var (i := 1) rfl (.inl rfl)) (ja_nil))))) (blkOk_by (own := [("one", 2)]) (by kernel_rfl)) (tgt_name 2) rfl (by decide) (fun _ _ _ _ _ => pg_name hN rfl (.inl rfl)) (fun _ _ _ _ _ => jts_nil) (fun _ _ _ _ _ => je_op2 op_sub d_sub (je_int) (je_var (i := 2) rfl (.inl rfl))))) (ja_nil)))))
theorem okm_minus (c : OkL K mg) : Fn P w K mg base 2 "minus" (spP K 2 mm_minus) := by rw [me_minus]; exact ok_minus c
theorem fs_raised : FnScope ["ring", "x", "exponent", "result"] ["ring", "x", "exponent"] (defScope (top 29)) := ⟨rfl, rfl, rfl, by decide +kernel, rfl, by decide +kernel, by decide +kernel⟩
theorem ok_raised (c : OkL K mg) : Fn P w K mg base 3 "raised" (spP K 3 m_raised) :=
  mkP (N := ["ring", "x", "exponent", "result"]) (ps := ["ring", "x", "exponent"]) (c.def_ 13 (d := dd_raised) rfl) (c.glo 28) fs_raised (fun _ _ _ _ _ _ us hl => match us, hl with | [_, _, _], _ => rfl) fun f cdv A outer s H E hr tk hp =>
    have hN := (fs_raised).nd
    jb_cons (js_set (i := 3) hN rfl (.inl rfl) (je_int))
    (jb_cons (js_while 100 hp (jt_cmp op_gt d_cmp (je_var (i := 2) rfl (.inl rfl)) (je_int) (nomark _)) (jb_cons (js_if (jt_cmp (op_eqD hr.units) d_eq (je_op2 op_mod d_mod (je_var (i := 2) rfl (.inl rfl)) (je_int)) (je_int) (nomark _)) (jb_one (js_set (i := 3) hN rfl (.inl rfl) (je_fn (ok_times c) (hr.mono (by decide)) rfl tk (ja_cons (je_var (i := 0) rfl (.inl rfl)) (ja_cons (je_var (i := 3) rfl (.inl rfl)) (ja_cons (je_var (i := 1) rfl (.inl rfl)) (ja_nil))))))) (jb_nil))
    (jb_one (js_par (i := 1) (j := 2) rfl hN rfl rfl (by decide) rfl rfl (ja_cons (je_fn (ok_times c) (hr.mono (by decide)) rfl tk (ja_cons (je_var (i := 0) rfl (.inl rfl)) (ja_cons (je_var (i := 1) rfl (.inl rfl)) (ja_cons (je_var (i := 1) rfl (.inl rfl)) (ja_nil))))) (ja_cons (je_op2 op_fdiv d_fdiv (je_var (i := 2) rfl (.inl rfl)) (je_int)) (ja_nil))) rfl))))
    (jb_one (js_ret (je_var (i := 3) rfl (.inl rfl)))))
theorem okm_raised (c : OkL K mg) : Fn P w K mg base 3 "raised" (spP K 3 mm_raised) := by rw [me_raised]; exact ok_raised c
theorem fs_multiply : FnScope ["ring", "x", "y"] ["ring", "x", "y"] (defScope (top 30)) := ⟨rfl, rfl, rfl, by decide +kernel, rfl, by decide +kernel, by decide +kernel⟩
theorem ok_multiply (c : OkL K mg) : Fn P w K mg base 5 "multiply" (spP K 3 m_multiply) :=
  mkP (N := ["ring", "x", "y"]) (ps := ["ring", "x", "y"]) (c.def_ 14 (d := dd_multiply) rfl) (c.glo 29) fs_multiply (fun _ _ _ _ _ _ us hl => match us, hl with | [_, _, _], _ => rfl) fun f cdv A outer s H E hr tk hp =>
    have hN := (fs_multiply).nd
    jb_cons (js_expr (je_fn (ok_check_two c) (hr.mono (by decide)) rfl tk (ja_cons (je_var (i := 0) rfl (.inl rfl)) (ja_cons (je_var (i := 1) rfl (.inl rfl)) (ja_cons (je_var (i := 2) rfl (.inl rfl)) (ja_nil))))))
    (jb_one (js_ret (je_fn (ok_times c) (hr.mono (by decide)) rfl tk (ja_cons (je_var (i := 0) rfl (.inl rfl)) (ja_cons (je_var (i := 1) rfl (.inl rfl)) (ja_cons (je_var (i := 2) rfl (.inl rfl)) (ja_nil)))))))
theorem okm_multiply (c : OkL K mg) : Fn P w K mg base 5 "multiply" (spP K 3 mm_multiply) := by rw [me_multiply]; exact ok_multiply c
theorem fs_power : FnScope ["ring", "x", "exponent"] ["ring", "x", "exponent"] (defScope (top 31)) := ⟨rfl, rfl, rfl, by decide +kernel, rfl, by decide +kernel, by decide +kernel⟩
theorem ok_power (c : OkL K mg) : Fn P w K mg base 4 "power" (spP K 3 m_power) :=
  mkP (N := ["ring", "x", "exponent"]) (ps := ["ring", "x", "exponent"]) (c.def_ 15 (d := dd_power) rfl) (c.glo 32) fs_power (fun _ _ _ _ _ _ us hl => match us, hl with | [_, _, _], _ => rfl) fun f cdv A outer s H E hr tk hp =>
    have hN := (fs_power).nd
    jb_cons (js_expr (je_fn (ok_check_ring c) (hr.mono (by decide)) rfl tk (ja_cons (je_var (i := 0) rfl (.inl rfl)) (ja_nil))))
    (jb_cons (js_expr (je_fn (ok_check_element c) (hr.mono (by decide)) rfl tk (ja_cons (je_var (i := 0) rfl (.inl rfl)) (ja_cons (je_var (i := 1) rfl (.inl rfl)) (ja_nil)))))
    (jb_cons (js_if (jt_not (jt_val (je_fn (ok_is_integer c) (hr.mono (by decide)) rfl tk (ja_cons (je_var (i := 2) rfl (.inl rfl)) (ja_cons (je_int) (ja_cons (je_int) (ja_nil))))))) (jb_one (js_raiseF (c.exc 30) (c.glo 31) rfl tk rfl)) (jb_nil))
    (jb_one (js_ret (je_fn (ok_raised c) (hr.mono (by decide)) rfl tk (ja_cons (je_var (i := 0) rfl (.inl rfl)) (ja_cons (je_var (i := 1) rfl (.inl rfl)) (ja_cons (je_var (i := 2) rfl (.inl rfl)) (ja_nil)))))))))
theorem okm_power (c : OkL K mg) : Fn P w K mg base 4 "power" (spP K 3 mm_power) := by rw [me_power]; exact ok_power c
theorem fs_text_of : FnScope ["ring", "one"] ["ring"] (defScope (top 34)) := ⟨rfl, rfl, rfl, by decide +kernel, rfl, by decide +kernel, by decide +kernel⟩
theorem ok_text_of (c : OkL K mg) : Fn P w K mg base 1 "text_of" (spP K 1 m_text_of) :=
  mkP (N := ["ring", "one"]) (ps := ["ring"]) (c.def_ 16 (d := dd_text_of) rfl) (c.glo 34) fs_text_of (fun _ _ _ _ _ _ us hl => match us, hl with | [_], _ => rfl) fun f cdv A outer s H E hr tk hp =>
    have hN := (fs_text_of).nd
    jb_one (js_ret (je_op2 o_add d_add (je_op2 o_add d_add (je_callTy call_str_int d_str rfl (c.free 33) boot_str (ja_cons (je_ix (je_var (i := 0) rfl (.inl rfl)) (je_int)) (ja_nil))) (je_str)) (je_join (je_str) (je_new (jn_lc rfl hN (ji_seq (je_ix (je_var (i := 0) rfl (.inl rfl)) (je_int))) (blkOk_by (own := [("one", 1)]) (by kernel_rfl)) (tgt_name 1) rfl (by decide) (fun _ _ _ _ _ => pg_name hN rfl (.inl rfl)) (fun _ _ _ _ _ => jts_nil) (fun _ _ _ _ _ => je_callTy call_str_int d_str rfl (c.free 33) boot_str (ja_cons (je_var (i := 1) rfl (.inl rfl)) (ja_nil))))))))
theorem fs_format_ring : FnScope ["ring"] ["ring"] (defScope (top 35)) := ⟨rfl, rfl, rfl, by decide +kernel, rfl, by decide +kernel, by decide +kernel⟩
theorem ok_format_ring (c : OkL K mg) : Fn P w K mg base 4 "format_ring" (spP K 1 m_format_ring) :=
  mkP (N := ["ring"]) (ps := ["ring"]) (c.def_ 17 (d := dd_format_ring) rfl) (c.glo 35) fs_format_ring (fun _ _ _ _ _ _ us hl => match us, hl with | [_], _ => rfl) fun f cdv A outer s H E hr tk hp =>
    have hN := (fs_format_ring).nd
    jb_cons (js_expr (je_fn (okm_check_ring c) (hr.mono (by decide)) rfl tk (ja_cons (je_var (i := 0) rfl (.inl rfl)) (ja_nil))))
    (jb_one (js_ret (je_fn (ok_text_of c) (hr.mono (by decide)) rfl tk (ja_cons (je_var (i := 0) rfl (.inl rfl)) (ja_nil)))))
theorem fs_parse_ring : FnScope ["text", "head", "tail", "words", "word", "sign", "ring"] ["text"] (defScope (top 36)) := ⟨rfl, rfl, rfl, by decide +kernel, rfl, by decide +kernel, by decide +kernel⟩
theorem ok_parse_ring (c : OkL K mg) : Fn P w K mg base 3 "parse_ring" (spP K 1 m_parse_ring) :=
  mkP (N := ["text", "head", "tail", "words", "word", "sign", "ring"]) (ps := ["text"]) (c.def_ 18 (d := dd_parse_ring) rfl) (c.glo 39) fs_parse_ring (fun _ _ _ _ _ _ us hl => match us, hl with | [_], _ => rfl) fun f cdv A outer s H E hr tk hp =>
    have hN := (fs_parse_ring).nd
    jb_cons (js_if (jw_t (jw_or (jt_not (jt_val (je_isi isStr rfl (c.free 0) rfl (c.free 33) boot_str (je_var (i := 0) rfl (.inl rfl))))) (jw_or1 (jt_cmp (op_neD hr.units) d_ne (je_callB c_len d_len rfl (c.free 7) boot_len (ja_cons (je_new (jn_split (je_var (i := 0) rfl (.inl rfl)) (je_str))) (ja_nil))) (je_int) (nomark _))))) (jb_one (js_raiseF (c.exc 36) (c.glo 37) rfl tk rfl)) (jb_nil))
    (jb_cons (js_asg (je_new (jn_split (je_var (i := 0) rfl (.inl rfl)) (je_str))) (jg_lst rfl (jgs_cons (i := 1) hN rfl (.inl rfl) (jgs_cons (i := 2) hN rfl (.inl rfl) (jgs_nil)))))
    (jb_cons (js_set (i := 3) hN rfl (.inl rfl) (je_new (jn_split (je_var (i := 2) rfl (.inl rfl)) (je_str))))
    (jb_cons (js_for hp rfl (ji_seq (je_op2 o_add d_add (je_new (jn_lst (ja_cons (je_var (i := 1) rfl (.inl rfl)) (ja_nil)))) (je_var (i := 3) rfl (.inl rfl)))) (jg_name (i := 4) hN rfl (.inl rfl)) (jb_one (js_if (jw_t (jw_or (jt_not (jt_chain op_le d_cmp op_le d_cmp (je_int) (je_callB c_len d_len rfl (c.free 7) boot_len (ja_cons (je_var (i := 4) rfl (.inl rfl)) (ja_nil))) (je_int))) (jw_or1 (jt_not (jt_val (je_callB (cr_all rfl) d_all rfl (c.free 10) boot_all (ja_cons (je_new (jn_lc rfl hN (ji_seq (je_var (i := 4) rfl (.inl rfl))) (blkOk_by (own := [("sign", 5)]) (by kernel_rfl)) (tgt_name 5) rfl (by decide) (fun _ _ _ _ _ => pg_name hN rfl (.inl rfl)) (fun _ _ _ _ _ => jts_nil) (fun _ _ _ _ _ => je_cmp op_in_sign d_inS (je_var (i := 5) rfl (.inl rfl)) (je_gstr rfl (c.str 38)) (by with_unfolding_all rfl)))) (ja_nil)))))))) (jb_one (js_raiseF (c.exc 36) (c.glo 37) rfl tk rfl)) (jb_nil))))
    (jb_cons (js_set (i := 6) hN rfl (.inl rfl) (je_tup (ja_cons (je_callTy call_int_str d_intS rfl (c.free 1) boot_int (ja_cons (je_var (i := 1) rfl (.inl rfl)) (ja_nil))) (ja_cons (je_callTy call_tuple_of d_tuple rfl (c.free 6) boot_tuple (ja_cons (je_new (jn_lc rfl hN (ji_seq (je_var (i := 3) rfl (.inl rfl))) (blkOk_by (own := [("word", 4)]) (by kernel_rfl)) (tgt_name 4) rfl (by decide) (fun _ _ _ _ _ => pg_name hN rfl (.inl rfl)) (fun _ _ _ _ _ => jts_nil) (fun _ _ _ _ _ => je_callTy call_int_str d_intS rfl (c.free 1) boot_int (ja_cons (je_var (i := 4) rfl (.inl rfl)) (ja_nil))))) (ja_nil))) (ja_nil)))))
    (jb_cons (js_if (jw_t (jw_or (jt_not (jt_val (je_fn (okm_is_ring c) (hr.mono (by decide)) rfl tk (ja_cons (je_var (i := 6) rfl (.inl rfl)) (ja_nil))))) (jw_or1 (jt_cmp (op_neD hr.units) d_ne (je_fn (ok_text_of c) (hr.mono (by decide)) rfl tk (ja_cons (je_var (i := 6) rfl (.inl rfl)) (ja_nil))) (je_var (i := 0) rfl (.inl rfl)) (nomark _))))) (jb_one (js_raiseF (c.exc 36) (c.glo 37) rfl tk rfl)) (jb_nil))
    (jb_one (js_ret (je_var (i := 6) rfl (.inl rfl)))))))))
theorem fs_divided : FnScope ["p", "dividend", "divisor", "rest", "count", "quotient", "at", "i", "one"] ["p", "dividend", "divisor"] (defScope (top 38)) := ⟨rfl, rfl, rfl, by decide +kernel, rfl, by decide +kernel, by decide +kernel⟩
theorem ok_divided (c : OkL K mg) : Fn P w K mg base 1 "divided" (spP K 3 m_divided) :=
  mkP (N := ["p", "dividend", "divisor", "rest", "count", "quotient", "at", "i", "one"]) (ps := ["p", "dividend", "divisor"]) (c.def_ 19 (d := dd_divided) rfl) (c.glo 42) fs_divided (fun _ _ _ _ _ _ us hl => match us, hl with | [_, _, _], _ => rfl) fun f cdv A outer s H E hr tk hp =>
    have hN := (fs_divided).nd
    jb_cons (js_parN (i := 3) (j := 4) rfl hN rfl rfl (by decide) rfl rfl (jn_list rfl (c.free 40) (ja_cons (je_var (i := 1) rfl (.inl rfl)) (ja_nil))) (je_op2 op_sub d_sub (je_callB c_len d_len rfl (c.free 7) boot_len (ja_cons (je_var (i := 2) rfl (.inl rfl)) (ja_nil))) (je_int)) rfl)
    (jb_cons (js_own (i := 5) hN rfl (.inl rfl) (jn_op2 op_rep dn_rep (je_new (jn_lst (ja_cons (je_int) (ja_nil)))) (je_op2 op_sub d_sub (je_callB c_len d_len rfl (c.free 7) boot_len (ja_cons (je_var (i := 1) rfl (.inl rfl)) (ja_nil))) (je_var (i := 4) rfl (.inl rfl)))))
    (jb_cons (js_for hp rfl (ji_range3 rfl (c.free 4) (ja_cons (je_op2 op_sub d_sub (je_callB c_len d_len rfl (c.free 7) boot_len (ja_cons (je_var (i := 5) rfl (.inl rfl)) (ja_nil))) (je_int)) (ja_cons (je_neg (je_int)) (ja_cons (je_neg (je_int)) (ja_nil))))) (jg_name (i := 6) hN rfl (.inl rfl)) (jb_cons (js_item (i := 5) rfl (.inl rfl) (je_op2 op_mod d_mod (je_ix (je_var (i := 3) rfl (.inl rfl)) (je_op2 o_add d_add (je_var (i := 6) rfl (.inl rfl)) (je_var (i := 4) rfl (.inl rfl)))) (je_var (i := 0) rfl (.inl rfl))) (je_var (i := 6) rfl (.inl rfl)))
    (jb_one (js_for hp rfl (ji_enum rfl (c.free 25) (ja_cons (je_var (i := 2) rfl (.inl rfl)) (ja_nil))) (jg_tup rfl (jgs_cons (i := 7) hN rfl (.inl rfl) (jgs_cons (i := 8) hN rfl (.inl rfl) (jgs_nil)))) (jb_one (js_item (i := 3) rfl (.inl rfl) (je_op2 op_mod d_mod (je_op2 op_sub d_sub (je_ix (je_var (i := 3) rfl (.inl rfl)) (je_op2 o_add d_add (je_var (i := 6) rfl (.inl rfl)) (je_var (i := 7) rfl (.inl rfl)))) (je_op2 o_mul d_mul (je_var (i := 8) rfl (.inl rfl)) (je_ix (je_var (i := 5) rfl (.inl rfl)) (je_var (i := 6) rfl (.inl rfl))))) (je_var (i := 0) rfl (.inl rfl))) (je_op2 o_add d_add (je_var (i := 6) rfl (.inl rfl)) (je_var (i := 7) rfl (.inl rfl)))))))))
    (jb_one (js_ret (je_if (jt_cmp (op_eqD hr.units) d_eq (je_callB (cr_max rfl) d_max rfl (c.free 41) boot_max (ja_cons (je_var (i := 3) rfl (.inl rfl)) (ja_nil))) (je_int) (nomark _)) (je_callTy call_tuple_of d_tuple rfl (c.free 6) boot_tuple (ja_cons (je_var (i := 5) rfl (.inl rfl)) (ja_nil))) (je_non))))))
theorem fs_lower_parts : FnScope ["p", "count", "some", "again", "longer", "part", "one"] ["p", "count"] (defScope (top 39)) := ⟨rfl, rfl, rfl, by decide +kernel, rfl, by decide +kernel, by decide +kernel⟩
theorem ok_lower_parts (c : OkL K mg) : Fn P w K mg base 1 "lower_parts" (spP K 2 m_lower_parts) :=
  mkP (N := ["p", "count", "some", "again", "longer", "part", "one"]) (ps := ["p", "count"]) (c.def_ 20 (d := dd_lower_parts) rfl) (c.glo 43) fs_lower_parts (fun _ _ _ _ _ _ us hl => match us, hl with | [_, _], _ => rfl) fun f cdv A outer s H E hr tk hp =>
    have hN := (fs_lower_parts).nd
    jb_cons (js_set (i := 2) hN rfl (.inl rfl) (je_new (jn_lst (ja_cons (je_tup (ja_nil)) (ja_nil)))))
    (jb_cons (js_for hp rfl (ji_range1 rfl (c.free 4) (ja_cons (je_var (i := 1) rfl (.inl rfl)) (ja_nil))) (jg_name (i := 3) hN rfl (.inl rfl)) (jb_cons (js_own (i := 4) hN rfl (.inl rfl) (jn_lst (ja_nil)))
    (jb_cons (js_for hp rfl (ji_seq (je_var (i := 2) rfl (.inl rfl))) (jg_name (i := 5) hN rfl (.inr rfl)) (jb_one (js_expr (je_extend (i := 4) rfl (.inl rfl) (je_new (jn_lc rfl hN (ji_range1 rfl (c.free 4) (ja_cons (je_var (i := 0) rfl (.inl rfl)) (ja_nil))) (blkOk_by (own := [("one", 6)]) (by kernel_rfl)) (tgt_name 6) rfl (by decide) (fun _ _ _ _ _ => pg_name hN rfl (.inl rfl)) (fun _ _ _ _ _ => jts_nil) (fun _ _ _ _ _ => je_op2 o_add d_add (je_var (i := 5) rfl (.inr (.inl rfl))) (je_tup (ja_cons (je_var (i := 6) rfl (.inl rfl)) (ja_nil))))))))))
    (jb_one (js_set (i := 2) hN rfl (.inl rfl) (je_var (i := 4) rfl (.inl rfl)))))))
    (jb_one (js_ret (je_var (i := 2) rfl (.inl rfl)))))
theorem fs_split : FnScope ["ring", "p", "lower", "degree", "part", "quotient"] ["ring"] (defScope (top 40)) := ⟨rfl, rfl, rfl, by decide +kernel, rfl, by decide +kernel, by decide +kernel⟩
theorem ok_split (c : OkL K mg) : Fn P w K mg base 2 "split" (spP K 1 m_split) :=
  mkP (N := ["ring", "p", "lower", "degree", "part", "quotient"]) (ps := ["ring"]) (c.def_ 21 (d := dd_split) rfl) (c.glo 44) fs_split (fun _ _ _ _ _ _ us hl => match us, hl with | [_], _ => rfl) fun f cdv A outer s H E hr tk hp =>
    have hN := (fs_split).nd
    jb_cons (js_asg (je_var (i := 0) rfl (.inl rfl)) (jg_tup rfl (jgs_cons (i := 1) hN rfl (.inl rfl) (jgs_cons (i := 2) hN rfl (.inl rfl) (jgs_nil)))))
    (jb_cons (js_for hp rfl (ji_range2 rfl (c.free 4) (ja_cons (je_int) (ja_cons (je_op2 o_add d_add (je_op2 op_fdiv d_fdiv (je_callB c_len d_len rfl (c.free 7) boot_len (ja_cons (je_var (i := 2) rfl (.inl rfl)) (ja_nil))) (je_int)) (je_int)) (ja_nil)))) (jg_name (i := 3) hN rfl (.inl rfl)) (jb_one (js_for hp rfl (ji_seq (je_fn (ok_lower_parts c) (hr.mono (by decide)) rfl tk (ja_cons (je_var (i := 1) rfl (.inl rfl)) (ja_cons (je_var (i := 3) rfl (.inl rfl)) (ja_nil))))) (jg_name (i := 4) hN rfl (.inl rfl)) (jb_cons (js_set (i := 5) hN rfl (.inl rfl) (je_fn (ok_divided c) (hr.mono (by decide)) rfl tk (ja_cons (je_var (i := 1) rfl (.inl rfl)) (ja_cons (je_op2 o_add d_add (je_var (i := 2) rfl (.inl rfl)) (je_tup (ja_cons (je_int) (ja_nil)))) (ja_cons (je_op2 o_add d_add (je_var (i := 4) rfl (.inl rfl)) (je_tup (ja_cons (je_int) (ja_nil)))) (ja_nil))))))
    (jb_one (js_if (jt_cmp o_isnot d_isnot (je_var (i := 5) rfl (.inl rfl)) (je_non) (nomark _)) (jb_one (js_ret (je_tup (ja_cons (je_op2 o_add d_add (je_var (i := 4) rfl (.inl rfl)) (je_tup (ja_cons (je_int) (ja_nil)))) (ja_cons (je_var (i := 5) rfl (.inl rfl)) (ja_nil)))))) (jb_nil)))))))
    (jb_one (js_ret (je_non))))
theorem okm_split (c : OkL K mg) : Fn P w K mg base 2 "split" (spP K 1 mm_split) := by rw [me_split]; exact ok_split c
theorem fs_is_field : FnScope ["ring"] ["ring"] (defScope (top 41)) := ⟨rfl, rfl, rfl, by decide +kernel, rfl, by decide +kernel, by decide +kernel⟩
theorem ok_is_field (c : OkL K mg) : Fn P w K mg base 4 "is_field" (spP K 1 m_is_field) :=
  mkP (N := ["ring"]) (ps := ["ring"]) (c.def_ 22 (d := dd_is_field) rfl) (c.glo 45) fs_is_field (fun _ _ _ _ _ _ us hl => match us, hl with | [_], _ => rfl) fun f cdv A outer s H E hr tk hp =>
    have hN := (fs_is_field).nd
    jb_cons (js_expr (je_fn (ok_check_ring c) (hr.mono (by decide)) rfl tk (ja_cons (je_var (i := 0) rfl (.inl rfl)) (ja_nil))))
    (jb_one (js_ret (je_cmp o_is d_is (je_fn (ok_split c) (hr.mono (by decide)) rfl tk (ja_cons (je_var (i := 0) rfl (.inl rfl)) (ja_nil))) (je_non) (nomark _))))
theorem okm_is_field (c : OkL K mg) : Fn P w K mg base 4 "is_field" (spP K 1 mm_is_field) := by rw [me_is_field]; exact ok_is_field c
theorem fs_check_field : FnScope ["field"] ["field"] (defScope (top 42)) := ⟨rfl, rfl, rfl, by decide +kernel, rfl, by decide +kernel, by decide +kernel⟩
theorem ok_check_field (c : OkL K mg) : Fn P w K mg base 5 "check_field" (spP K 1 m_check_field) :=
  mkP (N := ["field"]) (ps := ["field"]) (c.def_ 23 (d := dd_check_field) rfl) (c.glo 48) fs_check_field (fun _ _ _ _ _ _ us hl => match us, hl with | [_], _ => rfl) fun f cdv A outer s H E hr tk hp =>
    have hN := (fs_check_field).nd
    jb_one (js_if (jt_not (jt_val (je_fn (ok_is_field c) (hr.mono (by decide)) rfl tk (ja_cons (je_var (i := 0) rfl (.inl rfl)) (ja_nil))))) (jb_one (js_raiseF (c.exc 46) (c.glo 47) rfl tk rfl)) (jb_nil))
theorem okm_check_field (c : OkL K mg) : Fn P w K mg base 5 "check_field" (spP K 1 mm_check_field) := by rw [me_check_field]; exact ok_check_field c
theorem fs_factors : FnScope ["ring"] ["ring"] (defScope (top 43)) := ⟨rfl, rfl, rfl, by decide +kernel, rfl, by decide +kernel, by decide +kernel⟩
theorem ok_factors (c : OkL K mg) : Fn P w K mg base 4 "factors" (spP K 1 m_factors) :=
  mkP (N := ["ring"]) (ps := ["ring"]) (c.def_ 24 (d := dd_factors) rfl) (c.glo 49) fs_factors (fun _ _ _ _ _ _ us hl => match us, hl with | [_], _ => rfl) fun f cdv A outer s H E hr tk hp =>
    have hN := (fs_factors).nd
    jb_cons (js_expr (je_fn (ok_check_ring c) (hr.mono (by decide)) rfl tk (ja_cons (je_var (i := 0) rfl (.inl rfl)) (ja_nil))))
    (jb_one (js_ret (je_fn (ok_split c) (hr.mono (by decide)) rfl tk (ja_cons (je_var (i := 0) rfl (.inl rfl)) (ja_nil)))))
theorem fs_paper : FnScope ["ring", "found", "one"] ["ring"] (defScope (top 44)) := ⟨rfl, rfl, rfl, by decide +kernel, rfl, by decide +kernel, by decide +kernel⟩
theorem ok_paper (c : OkL K mg) : Fn P w K mg base 4 "paper" (spP K 1 m_paper) :=
  mkP (N := ["ring", "found", "one"]) (ps := ["ring"]) (c.def_ 25 (d := dd_paper) rfl) (c.glo 52) fs_paper (fun _ _ _ _ _ _ us hl => match us, hl with | [_], _ => rfl) fun f cdv A outer s H E hr tk hp =>
    have hN := (fs_paper).nd
    jb_cons (js_expr (je_fn (ok_check_ring c) (hr.mono (by decide)) rfl tk (ja_cons (je_var (i := 0) rfl (.inr (.inl rfl))) (ja_nil))))
    (jb_cons (js_set (i := 1) hN rfl (.inl rfl) (je_fn (ok_split c) (hr.mono (by decide)) rfl tk (ja_cons (je_var (i := 0) rfl (.inr (.inl rfl))) (ja_nil))))
    (jb_cons (js_if (jt_cmp o_is d_is (je_var (i := 1) rfl (.inl rfl)) (je_non) (nomark _)) (jb_one (js_raiseF (c.exc 50) (c.glo 51) rfl tk rfl)) (jb_nil))
    (jb_one (js_ret (je_callTy call_tuple_of d_tuple rfl (c.free 6) boot_tuple (ja_cons (je_new (jn_lc rfl hN (ji_seq (je_var (i := 1) rfl (.inl rfl))) (blkOk_by (own := [("one", 2)]) (by kernel_rfl)) (tgt_name 2) rfl (by decide) (fun _ _ _ _ _ => pg_name hN rfl (.inl rfl)) (fun _ _ _ _ _ => jts_nil) (fun _ _ _ _ _ => je_fn (ok_element_of c) (hr.mono (by decide)) rfl takes_no (ja_cons (je_var (i := 0) rfl (.inr (.inl rfl))) (ja_cons (je_new (jn_list rfl (c.free 40) (ja_cons (je_var (i := 2) rfl (.inl rfl)) (ja_nil)))) (ja_nil)))))) (ja_nil)))))))
theorem fs_is_paper : FnScope ["ring", "value", "one"] ["ring", "value"] (defScope (top 45)) := ⟨rfl, rfl, rfl, by decide +kernel, rfl, by decide +kernel, by decide +kernel⟩
theorem ok_is_paper (c : OkL K mg) : Fn P w K mg base 4 "is_paper" (spP K 2 m_is_paper) :=
  mkP (N := ["ring", "value", "one"]) (ps := ["ring", "value"]) (c.def_ 26 (d := dd_is_paper) rfl) (c.glo 53) fs_is_paper (fun _ _ _ _ _ _ us hl => match us, hl with | [_, _], _ => rfl) fun f cdv A outer s H E hr tk hp =>
    have hN := (fs_is_paper).nd
    jb_cons (js_expr (je_fn (ok_check_ring c) (hr.mono (by decide)) rfl tk (ja_cons (je_var (i := 0) rfl (.inr (.inl rfl))) (ja_nil))))
    (jb_cons (js_if (jw_t (jw_or (jt_not (jt_val (je_isi isTup rfl (c.free 0) rfl (c.free 6) boot_tuple (je_var (i := 1) rfl (.inl rfl))))) (jw_or1 (jt_cmp (op_neD hr.units) d_ne (je_callB c_len d_len rfl (c.free 7) boot_len (ja_cons (je_var (i := 1) rfl (.inl rfl)) (ja_nil))) (je_int) (nomark _))))) (jb_one (js_ret (je_bl))) (jb_nil))
    (jb_cons (js_if (jt_not (jt_val (je_callB (cr_all rfl) d_all rfl (c.free 10) boot_all (ja_cons (je_new (jn_lc rfl hN (ji_seq (je_var (i := 1) rfl (.inl rfl))) (blkOk_by (own := [("one", 2)]) (by kernel_rfl)) (tgt_name 2) rfl (by decide) (fun _ _ _ _ _ => pg_name hN rfl (.inl rfl)) (fun _ _ _ _ _ => jts_nil) (fun _ _ _ _ _ => je_fn (ok_is_integer c) (hr.mono (by decide)) rfl takes_no (ja_cons (je_var (i := 2) rfl (.inl rfl)) (ja_cons (je_int) (ja_cons (je_op2 op_sub d_sub (je_fn (ok_size_of c) (hr.mono (by decide)) rfl takes_no (ja_cons (je_var (i := 0) rfl (.inr (.inl rfl))) (ja_nil))) (je_int)) (ja_nil))))))) (ja_nil))))) (jb_one (js_ret (je_bl))) (jb_nil))
    (jb_one (js_ret (je_cmp (op_eqD hr.units) d_eq (je_fn (ok_times c) (hr.mono (by decide)) rfl tk (ja_cons (je_var (i := 0) rfl (.inr (.inl rfl))) (ja_cons (je_ix (je_var (i := 1) rfl (.inl rfl)) (je_int)) (ja_cons (je_ix (je_var (i := 1) rfl (.inl rfl)) (je_int)) (ja_nil))))) (je_int) (nomark _))))))
theorem fs_path_of : FnScope ["field", "x", "result", "again"] ["field", "x"] (defScope (top 47)) := ⟨rfl, rfl, rfl, by decide +kernel, rfl, by decide +kernel, by decide +kernel⟩
theorem ok_path_of (c : OkL K mg) : Fn P w K mg base 4 "path_of" (spP K 2 m_path_of) :=
  mkP (N := ["field", "x", "result", "again"]) (ps := ["field", "x"]) (c.def_ 27 (d := dd_path_of) rfl) (c.glo 54) fs_path_of (fun _ _ _ _ _ _ us hl => match us, hl with | [_, _], _ => rfl) fun f cdv A outer s H E hr tk hp =>
    have hN := (fs_path_of).nd
    jb_cons (js_own (i := 2) hN rfl (.inl rfl) (jn_lst (ja_cons (je_var (i := 1) rfl (.inl rfl)) (ja_nil))))
    (jb_cons (js_for hp rfl (ji_seq (je_cut (je_ix (je_var (i := 0) rfl (.inl rfl)) (je_int)) (jo_some (je_int)) (jo_none))) (jg_name (i := 3) hN rfl (.inl rfl)) (jb_one (js_expr (je_append (i := 2) rfl (.inl rfl) (je_fn (okm_raised c) (hr.mono (by decide)) rfl tk (ja_cons (je_var (i := 0) rfl (.inl rfl)) (ja_cons (je_ix (je_var (i := 2) rfl (.inl rfl)) (je_neg (je_int))) (ja_cons (je_ix (je_var (i := 0) rfl (.inl rfl)) (je_int)) (ja_nil)))))))))
    (jb_one (js_ret (je_var (i := 2) rfl (.inl rfl)))))
theorem fs_check_both : FnScope ["field", "x"] ["field", "x"] (defScope (top 48)) := ⟨rfl, rfl, rfl, by decide +kernel, rfl, by decide +kernel, by decide +kernel⟩
theorem ok_check_both (c : OkL K mg) : Fn P w K mg base 6 "check_both" (spP K 2 m_check_both) :=
  mkP (N := ["field", "x"]) (ps := ["field", "x"]) (c.def_ 28 (d := dd_check_both) rfl) (c.glo 55) fs_check_both (fun _ _ _ _ _ _ us hl => match us, hl with | [_, _], _ => rfl) fun f cdv A outer s H E hr tk hp =>
    have hN := (fs_check_both).nd
    jb_cons (js_expr (je_fn (okm_check_field c) (hr.mono (by decide)) rfl tk (ja_cons (je_var (i := 0) rfl (.inl rfl)) (ja_nil))))
    (jb_one (js_expr (je_fn (okm_check_element c) (hr.mono (by decide)) rfl tk (ja_cons (je_var (i := 0) rfl (.inl rfl)) (ja_cons (je_var (i := 1) rfl (.inl rfl)) (ja_nil))))))
theorem fs_conjugates : FnScope ["field", "x"] ["field", "x"] (defScope (top 49)) := ⟨rfl, rfl, rfl, by decide +kernel, rfl, by decide +kernel, by decide +kernel⟩
theorem ok_conjugates (c : OkL K mg) : Fn P w K mg base 7 "conjugates" (spP K 2 m_conjugates) :=
  mkP (N := ["field", "x"]) (ps := ["field", "x"]) (c.def_ 29 (d := dd_conjugates) rfl) (c.glo 58) fs_conjugates (fun _ _ _ _ _ _ us hl => match us, hl with | [_, _], _ => rfl) fun f cdv A outer s H E hr tk hp =>
    have hN := (fs_conjugates).nd
    jb_cons (js_expr (je_fn (ok_check_both c) (hr.mono (by decide)) rfl tk (ja_cons (je_var (i := 0) rfl (.inl rfl)) (ja_cons (je_var (i := 1) rfl (.inl rfl)) (ja_nil)))))
    (jb_one (js_ret (je_new (jn_sortSet rfl rfl (c.free 56) rfl (c.free 57) (je_fn (ok_path_of c) (hr.mono (by decide)) rfl tk (ja_cons (je_var (i := 0) rfl (.inl rfl)) (ja_cons (je_var (i := 1) rfl (.inl rfl)) (ja_nil))))))))
theorem fs_least_polynomial : FnScope ["field", "x", "result", "root", "longer", "at", "one"] ["field", "x"] (defScope (top 50)) := ⟨rfl, rfl, rfl, by decide +kernel, rfl, by decide +kernel, by decide +kernel⟩
theorem ok_least_polynomial (c : OkL K mg) : Fn P w K mg base 7 "least_polynomial" (spP K 2 m_least_polynomial) :=
  mkP (N := ["field", "x", "result", "root", "longer", "at", "one"]) (ps := ["field", "x"]) (c.def_ 30 (d := dd_least_polynomial) rfl) (c.glo 59) fs_least_polynomial (fun _ _ _ _ _ _ us hl => match us, hl with | [_, _], _ => rfl) fun f cdv A outer s H E hr tk hp =>
    have hN := (fs_least_polynomial).nd
    jb_cons (js_expr (je_fn (ok_check_both c) (hr.mono (by decide)) rfl tk (ja_cons (je_var (i := 0) rfl (.inl rfl)) (ja_cons (je_var (i := 1) rfl (.inl rfl)) (ja_nil)))))
    (jb_cons (js_set (i := 2) hN rfl (.inl rfl) (je_new (jn_lst (ja_cons (je_int) (ja_nil)))))
    (jb_cons (js_for hp rfl (ji_seq (je_new (jn_sortSet rfl rfl (c.free 56) rfl (c.free 57) (je_fn (ok_path_of c) (hr.mono (by decide)) rfl tk (ja_cons (je_var (i := 0) rfl (.inl rfl)) (ja_cons (je_var (i := 1) rfl (.inl rfl)) (ja_nil))))))) (jg_name (i := 3) hN rfl (.inl rfl)) (jb_cons (js_own (i := 4) hN rfl (.inl rfl) (jn_op2 op_cat dn_cat (je_new (jn_lst (ja_cons (je_int) (ja_nil)))) (je_var (i := 2) rfl (.inl rfl))))
    (jb_cons (js_for hp rfl (ji_enum rfl (c.free 25) (ja_cons (je_var (i := 2) rfl (.inl rfl)) (ja_nil))) (jg_tup rfl (jgs_cons (i := 5) hN rfl (.inl rfl) (jgs_cons (i := 6) hN rfl (.inl rfl) (jgs_nil)))) (jb_one (js_item (i := 4) rfl (.inl rfl) (je_fn (okm_plus c) (hr.mono (by decide)) rfl tk (ja_cons (je_var (i := 0) rfl (.inl rfl)) (ja_cons (je_ix (je_var (i := 4) rfl (.inl rfl)) (je_var (i := 5) rfl (.inl rfl))) (ja_cons (je_fn (okm_times c) (hr.mono (by decide)) rfl tk (ja_cons (je_var (i := 0) rfl (.inl rfl)) (ja_cons (je_fn (okm_minus c) (hr.mono (by decide)) rfl tk (ja_cons (je_var (i := 0) rfl (.inl rfl)) (ja_cons (je_var (i := 3) rfl (.inl rfl)) (ja_nil)))) (ja_cons (je_var (i := 6) rfl (.inl rfl)) (ja_nil))))) (ja_nil))))) (je_var (i := 5) rfl (.inl rfl)))))
    (jb_one (js_set (i := 2) hN rfl (.inl rfl) (je_var (i := 4) rfl (.inl rfl)))))))
    (jb_one (js_ret (je_callTy call_tuple_of d_tuple rfl (c.free 6) boot_tuple (ja_cons (je_var (i := 2) rfl (.inl rfl)) (ja_nil)))))))
theorem fs_check_nonzero : FnScope ["field", "x"] ["field", "x"] (defScope (top 52)) := ⟨rfl, rfl, rfl, by decide +kernel, rfl, by decide +kernel, by decide +kernel⟩
theorem ok_check_nonzero (c : OkL K mg) : Fn P w K mg base 6 "check_nonzero" (spP K 2 m_check_nonzero) :=
  mkP (N := ["field", "x"]) (ps := ["field", "x"]) (c.def_ 31 (d := dd_check_nonzero) rfl) (c.glo 62) fs_check_nonzero (fun _ _ _ _ _ _ us hl => match us, hl with | [_, _], _ => rfl) fun f cdv A outer s H E hr tk hp =>
    have hN := (fs_check_nonzero).nd
    jb_cons (js_expr (je_fn (okm_check_field c) (hr.mono (by decide)) rfl tk (ja_cons (je_var (i := 0) rfl (.inl rfl)) (ja_nil))))
    (jb_cons (js_expr (je_fn (okm_check_element c) (hr.mono (by decide)) rfl tk (ja_cons (je_var (i := 0) rfl (.inl rfl)) (ja_cons (je_var (i := 1) rfl (.inl rfl)) (ja_nil)))))
    (jb_one (js_if (jt_cmp (op_eqD hr.units) d_eq (je_var (i := 1) rfl (.inl rfl)) (je_int) (nomark _)) (jb_one (js_raiseF (c.exc 60) (c.glo 61) rfl tk rfl)) (jb_nil))))
theorem fs_inverse_of : FnScope ["field", "x"] ["field", "x"] (defScope (top 53)) := ⟨rfl, rfl, rfl, by decide +kernel, rfl, by decide +kernel, by decide +kernel⟩
theorem ok_inverse_of (c : OkL K mg) : Fn P w K mg base 4 "inverse_of" (spP K 2 m_inverse_of) :=
  mkP (N := ["field", "x"]) (ps := ["field", "x"]) (c.def_ 32 (d := dd_inverse_of) rfl) (c.glo 63) fs_inverse_of (fun _ _ _ _ _ _ us hl => match us, hl with | [_, _], _ => rfl) fun f cdv A outer s H E hr tk hp =>
    have hN := (fs_inverse_of).nd
    jb_one (js_ret (je_fn (okm_raised c) (hr.mono (by decide)) rfl tk (ja_cons (je_var (i := 0) rfl (.inl rfl)) (ja_cons (je_var (i := 1) rfl (.inl rfl)) (ja_cons (je_op2 op_sub d_sub (je_fn (okm_size_of c) (hr.mono (by decide)) rfl tk (ja_cons (je_var (i := 0) rfl (.inl rfl)) (ja_nil))) (je_int)) (ja_nil))))))
theorem fs_inverse : FnScope ["field", "x"] ["field", "x"] (defScope (top 54)) := ⟨rfl, rfl, rfl, by decide +kernel, rfl, by decide +kernel, by decide +kernel⟩
theorem ok_inverse (c : OkL K mg) : Fn P w K mg base 7 "inverse" (spP K 2 m_inverse) :=
  mkP (N := ["field", "x"]) (ps := ["field", "x"]) (c.def_ 33 (d := dd_inverse) rfl) (c.glo 64) fs_inverse (fun _ _ _ _ _ _ us hl => match us, hl with | [_, _], _ => rfl) fun f cdv A outer s H E hr tk hp =>
    have hN := (fs_inverse).nd
    jb_cons (js_expr (je_fn (ok_check_nonzero c) (hr.mono (by decide)) rfl tk (ja_cons (je_var (i := 0) rfl (.inl rfl)) (ja_cons (je_var (i := 1) rfl (.inl rfl)) (ja_nil)))))
    (jb_one (js_ret (je_fn (ok_inverse_of c) (hr.mono (by decide)) rfl tk (ja_cons (je_var (i := 0) rfl (.inl rfl)) (ja_cons (je_var (i := 1) rfl (.inl rfl)) (ja_nil))))))
theorem fs_order_of : FnScope ["field", "x", "count", "here"] ["field", "x"] (defScope (top 55)) := ⟨rfl, rfl, rfl, by decide +kernel, rfl, by decide +kernel, by decide +kernel⟩
theorem ok_order_of (c : OkL K mg) : Fn P w K mg base 3 "order_of" (spP K 2 m_order_of) :=
  mkP (N := ["field", "x", "count", "here"]) (ps := ["field", "x"]) (c.def_ 34 (d := dd_order_of) rfl) (c.glo 65) fs_order_of (fun _ _ _ _ _ _ us hl => match us, hl with | [_, _], _ => rfl) fun f cdv A outer s H E hr tk hp =>
    have hN := (fs_order_of).nd
    jb_cons (js_par (i := 2) (j := 3) rfl hN rfl rfl (by decide) rfl rfl (ja_cons (je_int) (ja_cons (je_var (i := 1) rfl (.inl rfl)) (ja_nil))) rfl)
    (jb_cons (js_while 100 hp (jt_cmp (op_neD hr.units) d_ne (je_var (i := 3) rfl (.inl rfl)) (je_int) (nomark _)) (jb_one (js_par (i := 3) (j := 2) rfl hN rfl rfl (by decide) rfl rfl (ja_cons (je_fn (okm_times c) (hr.mono (by decide)) rfl tk (ja_cons (je_var (i := 0) rfl (.inl rfl)) (ja_cons (je_var (i := 3) rfl (.inl rfl)) (ja_cons (je_var (i := 1) rfl (.inl rfl)) (ja_nil))))) (ja_cons (je_op2 o_add d_add (je_var (i := 2) rfl (.inl rfl)) (je_int)) (ja_nil))) rfl)))
    (jb_one (js_ret (je_var (i := 2) rfl (.inl rfl)))))
theorem fs_order : FnScope ["field", "x"] ["field", "x"] (defScope (top 56)) := ⟨rfl, rfl, rfl, by decide +kernel, rfl, by decide +kernel, by decide +kernel⟩
theorem ok_order (c : OkL K mg) : Fn P w K mg base 7 "order" (spP K 2 m_order) :=
  mkP (N := ["field", "x"]) (ps := ["field", "x"]) (c.def_ 35 (d := dd_order) rfl) (c.glo 66) fs_order (fun _ _ _ _ _ _ us hl => match us, hl with | [_, _], _ => rfl) fun f cdv A outer s H E hr tk hp =>
    have hN := (fs_order).nd
    jb_cons (js_expr (je_fn (ok_check_nonzero c) (hr.mono (by decide)) rfl tk (ja_cons (je_var (i := 0) rfl (.inl rfl)) (ja_cons (je_var (i := 1) rfl (.inl rfl)) (ja_nil)))))
    (jb_one (js_ret (je_fn (ok_order_of c) (hr.mono (by decide)) rfl tk (ja_cons (je_var (i := 0) rfl (.inl rfl)) (ja_cons (je_var (i := 1) rfl (.inl rfl)) (ja_nil))))))
theorem fs_generators : FnScope ["field", "x"] ["field"] (defScope (top 57)) := ⟨rfl, rfl, rfl, by decide +kernel, rfl, by decide +kernel, by decide +kernel⟩
theorem ok_generators (c : OkL K mg) : Fn P w K mg base 6 "generators" (spP K 1 m_generators) :=
  mkP (N := ["field", "x"]) (ps := ["field"]) (c.def_ 36 (d := dd_generators) rfl) (c.glo 67) fs_generators (fun _ _ _ _ _ _ us hl => match us, hl with | [_], _ => rfl) fun f cdv A outer s H E hr tk hp =>
    have hN := (fs_generators).nd
    jb_cons (js_expr (je_fn (okm_check_field c) (hr.mono (by decide)) rfl tk (ja_cons (je_var (i := 0) rfl (.inr (.inl rfl))) (ja_nil))))
    (jb_one (js_ret (je_new (jn_lc rfl hN (ji_range2 rfl (c.free 4) (ja_cons (je_int) (ja_cons (je_fn (okm_size_of c) (hr.mono (by decide)) rfl tk (ja_cons (je_var (i := 0) rfl (.inr (.inl rfl))) (ja_nil))) (ja_nil)))) (blkOk_by (own := [("x", 1)]) (by kernel_rfl)) (tgt_name 1) rfl (by decide) (fun _ _ _ _ _ => pg_name hN rfl (.inl rfl)) (fun _ _ _ _ _ => jts_one (jt_cmp (op_eqD hr.units) d_eq (je_fn (ok_order_of c) (hr.mono (by decide)) rfl takes_no (ja_cons (je_var (i := 0) rfl (.inr (.inl rfl))) (ja_cons (je_var (i := 1) rfl (.inl rfl)) (ja_nil)))) (je_op2 op_sub d_sub (je_fn (okm_size_of c) (hr.mono (by decide)) rfl takes_no (ja_cons (je_var (i := 0) rfl (.inr (.inl rfl))) (ja_nil))) (je_int)) (nomark _))) (fun _ _ _ _ _ => je_var (i := 1) rfl (.inl rfl))))))
theorem fs_logarithm : FnScope ["field", "base", "x", "count", "here"] ["field", "base", "x"] (defScope (top 58)) := ⟨rfl, rfl, rfl, by decide +kernel, rfl, by decide +kernel, by decide +kernel⟩
theorem ok_logarithm (c : OkL K mg) : Fn P w K mg base 6 "logarithm" (spP K 3 m_logarithm) :=
  mkP (N := ["field", "base", "x", "count", "here"]) (ps := ["field", "base", "x"]) (c.def_ 37 (d := dd_logarithm) rfl) (c.glo 70) fs_logarithm (fun _ _ _ _ _ _ us hl => match us, hl with | [_, _, _], _ => rfl) fun f cdv A outer s H E hr tk hp =>
    have hN := (fs_logarithm).nd
    jb_cons (js_expr (je_fn (okm_check_field c) (hr.mono (by decide)) rfl tk (ja_cons (je_var (i := 0) rfl (.inl rfl)) (ja_nil))))
    (jb_cons (js_expr (je_fn (okm_check_element c) (hr.mono (by decide)) rfl tk (ja_cons (je_var (i := 0) rfl (.inl rfl)) (ja_cons (je_var (i := 1) rfl (.inl rfl)) (ja_nil)))))
    (jb_cons (js_expr (je_fn (okm_check_element c) (hr.mono (by decide)) rfl tk (ja_cons (je_var (i := 0) rfl (.inl rfl)) (ja_cons (je_var (i := 2) rfl (.inl rfl)) (ja_nil)))))
    (jb_cons (js_if (jw_t (jw_or (jt_cmp (op_eqD hr.units) d_eq (je_var (i := 1) rfl (.inl rfl)) (je_int) (nomark _)) (jw_or1 (jt_cmp (op_eqD hr.units) d_eq (je_var (i := 2) rfl (.inl rfl)) (je_int) (nomark _))))) (jb_one (js_raiseF (c.exc 60) (c.glo 61) rfl tk rfl)) (jb_nil))
    (jb_cons (js_if (jt_cmp (op_neD hr.units) d_ne (je_fn (ok_order_of c) (hr.mono (by decide)) rfl tk (ja_cons (je_var (i := 0) rfl (.inl rfl)) (ja_cons (je_var (i := 1) rfl (.inl rfl)) (ja_nil)))) (je_op2 op_sub d_sub (je_fn (okm_size_of c) (hr.mono (by decide)) rfl tk (ja_cons (je_var (i := 0) rfl (.inl rfl)) (ja_nil))) (je_int)) (nomark _)) (jb_one (js_raiseF (c.exc 68) (c.glo 69) rfl tk rfl)) (jb_nil))
    (jb_cons (js_asg (je_tup (ja_cons (je_int) (ja_cons (je_int) (ja_nil)))) (jg_tup rfl (jgs_cons (i := 3) hN rfl (.inl rfl) (jgs_cons (i := 4) hN rfl (.inl rfl) (jgs_nil)))))
    (jb_cons (js_while 100 hp (jt_cmp (op_neD hr.units) d_ne (je_var (i := 4) rfl (.inl rfl)) (je_var (i := 2) rfl (.inl rfl)) (nomark _)) (jb_one (js_par (i := 4) (j := 3) rfl hN rfl rfl (by decide) rfl rfl (ja_cons (je_fn (okm_times c) (hr.mono (by decide)) rfl tk (ja_cons (je_var (i := 0) rfl (.inl rfl)) (ja_cons (je_var (i := 4) rfl (.inl rfl)) (ja_cons (je_var (i := 1) rfl (.inl rfl)) (ja_nil))))) (ja_cons (je_op2 o_add d_add (je_var (i := 3) rfl (.inl rfl)) (je_int)) (ja_nil))) rfl)))
    (jb_one (js_ret (je_var (i := 3) rfl (.inl rfl))))))))))
theorem fs_Reckoner___init__ : FnScope ["self", "field", "x"] ["self", "field", "x"] (defScope (cm (top 60) 0)) := ⟨rfl, rfl, rfl, by decide +kernel, rfl, by decide +kernel, by decide +kernel⟩
theorem ok_Reckoner___init__ (c : OkL K mg) : MkX P w K mg base 7 "Reckoner" (spG K 3 m_Reckoner___init__) :=
  mkI (N := ["self", "field", "x"]) (ps := ["self", "field", "x"]) (q := "Reckoner.__init__") (c.def_ 38 (d := dd_Reckoner___init__) rfl) (c.fact 75) (c.glo 76) fs_Reckoner___init__ (fun _ _ _ _ _ _ us hl => match us, hl with | [_, _, _], _ => rfl) fun f cdv A outer s H E hr tk hp =>
    have hN := (fs_Reckoner___init__).nd
    jb_cons (js_expr (je_fn (ok_check_both c) (hr.mono (by decide)) rfl tk (ja_cons (je_var (i := 1) rfl (.inl rfl)) (ja_cons (je_var (i := 2) rfl (.inl rfl)) (ja_nil)))))
    (jb_cons (js_fldSet (i := 0) (FldX.mk' (c.fact 71) (c.fact 72)) rfl (.inl rfl) (je_var (i := 1) rfl (.inl rfl)))
    (jb_cons (js_fldOwn (i := 0) (FldX.mk' (c.fact 71) (c.fact 73)) rfl (.inl rfl) (jn_lst (ja_cons (je_var (i := 2) rfl (.inl rfl)) (ja_nil))))
    (jb_one (js_fldSet (i := 0) (FldX.mk' (c.fact 71) (c.fact 74)) rfl (.inl rfl) (je_int)))))
theorem fs_Reckoner_multiply : FnScope ["self", "y"] ["self", "y"] (defScope (cm (top 60) 2)) := ⟨rfl, rfl, rfl, by decide +kernel, rfl, by decide +kernel, by decide +kernel⟩
theorem ok_Reckoner_multiply (c : OkL K mg) : MtX P w K mg base 4 "Reckoner" "multiply" (spG K 2 m_Reckoner_multiply) :=
  mkM (N := ["self", "y"]) (ps := ["self", "y"]) (q := "Reckoner.multiply") (c.def_ 39 (d := dd_Reckoner_multiply) rfl) (c.fact 71) (c.fact 77) fs_Reckoner_multiply (fun _ _ _ _ _ _ us hl => match us, hl with | [_, _], _ => rfl) fun f cdv A outer s H E hr tk hp =>
    have hN := (fs_Reckoner_multiply).nd
    jb_cons (js_expr (je_fn (okm_check_element c) (hr.mono (by decide)) rfl tk (ja_cons (je_fld (i := 0) (FldX.mk' (c.fact 71) (c.fact 72)) rfl (.inl rfl)) (ja_cons (je_var (i := 1) rfl (.inl rfl)) (ja_nil)))))
    (jb_cons (js_expr (je_fldApp (i := 0) (FldX.mk' (c.fact 71) (c.fact 73)) (okm_times c) (hr.mono (by decide)) rfl tk rfl (.inl rfl) (jq_cons (jq_fld (i := 0) (FldX.mk' (c.fact 71) (c.fact 72)) rfl (.inl rfl)) (jq_cons (jq_fldIx (i := 0) (FldX.mk' (c.fact 71) (c.fact 73)) rfl (.inl rfl) pe_neg1) (jq_cons (jq_var (i := 1) rfl (.inl rfl)) (jq_nil))))))
    (jb_one (js_ret (je_fldIx (i := 0) (FldX.mk' (c.fact 71) (c.fact 73)) rfl (.inl rfl) pe_neg1))))
theorem fs_Reckoner_element : FnScope ["self"] ["self"] (defScope (cm (top 60) 3)) := ⟨rfl, rfl, rfl, by decide +kernel, rfl, by decide +kernel, by decide +kernel⟩
theorem ok_Reckoner_element (c : OkL K mg) : MtX P w K mg base 1 "Reckoner" "element" (spG K 1 m_Reckoner_element) :=
  mkM (N := ["self"]) (ps := ["self"]) (q := "Reckoner.element") (c.def_ 40 (d := dd_Reckoner_element) rfl) (c.fact 71) (c.fact 78) fs_Reckoner_element (fun _ _ _ _ _ _ us hl => match us, hl with | [_], _ => rfl) fun f cdv A outer s H E hr tk hp =>
    have hN := (fs_Reckoner_element).nd
    jb_one (js_ret (je_fldIx (i := 0) (FldX.mk' (c.fact 71) (c.fact 73)) rfl (.inl rfl) pe_neg1))
theorem fs_Reckoner_path : FnScope ["self"] ["self"] (defScope (cm (top 60) 4)) := ⟨rfl, rfl, rfl, by decide +kernel, rfl, by decide +kernel, by decide +kernel⟩
theorem ok_Reckoner_path (c : OkL K mg) : MtX P w K mg base 1 "Reckoner" "path" (spG K 1 m_Reckoner_path) :=
  mkM (N := ["self"]) (ps := ["self"]) (q := "Reckoner.path") (c.def_ 41 (d := dd_Reckoner_path) rfl) (c.fact 71) (c.fact 79) fs_Reckoner_path (fun _ _ _ _ _ _ us hl => match us, hl with | [_], _ => rfl) fun f cdv A outer s H E hr tk hp =>
    have hN := (fs_Reckoner_path).nd
    jb_one (js_ret (je_new (jn_fldList (i := 0) (FldX.mk' (c.fact 71) (c.fact 73)) rfl (.inl rfl) rfl (c.free 40))))
theorem fs_Reckoner_undo : FnScope ["self"] ["self"] (defScope (cm (top 60) 5)) := ⟨rfl, rfl, rfl, by decide +kernel, rfl, by decide +kernel, by decide +kernel⟩
theorem ok_Reckoner_undo (c : OkL K mg) : MtX P w K mg base 1 "Reckoner" "undo" (spG K 1 m_Reckoner_undo) :=
  mkM (N := ["self"]) (ps := ["self"]) (q := "Reckoner.undo") (c.def_ 42 (d := dd_Reckoner_undo) rfl) (c.fact 71) (c.fact 82) fs_Reckoner_undo (fun _ _ _ _ _ _ us hl => match us, hl with | [_], _ => rfl) fun f cdv A outer s H E hr tk hp =>
    have hN := (fs_Reckoner_undo).nd
    jb_cons (js_if (jt_cmp (op_eqD hr.units) d_eq (je_fldLen (i := 0) (FldX.mk' (c.fact 71) (c.fact 73)) rfl (.inl rfl) rfl (c.free 7)) (je_fld (i := 0) (FldX.mk' (c.fact 71) (c.fact 74)) rfl (.inl rfl)) (nomark _)) (jb_one (js_raiseF (c.exc 80) (c.glo 81) rfl tk rfl)) (jb_nil))
    (jb_cons (js_fldOwn (i := 0) (FldX.mk' (c.fact 71) (c.fact 73)) rfl (.inl rfl) (jn_fldCut (i := 0) (FldX.mk' (c.fact 71) (c.fact 73)) rfl (.inl rfl) po_no (po_int pe_neg1)))
    (jb_one (js_ret (je_fldIx (i := 0) (FldX.mk' (c.fact 71) (c.fact 73)) rfl (.inl rfl) pe_neg1))))
theorem fs_Reckoner___len__ : FnScope ["self"] ["self"] (defScope (cm (top 60) 8)) := ⟨rfl, rfl, rfl, by decide +kernel, rfl, by decide +kernel, by decide +kernel⟩
theorem ok_Reckoner___len__ (c : OkL K mg) : MtX P w K mg base 1 "Reckoner" "__len__" (spG K 1 m_Reckoner___len__) :=
  mkM (N := ["self"]) (ps := ["self"]) (q := "Reckoner.__len__") (c.def_ 43 (d := dd_Reckoner___len__) rfl) (c.fact 71) (c.fact 83) fs_Reckoner___len__ (fun _ _ _ _ _ _ us hl => match us, hl with | [_], _ => rfl) fun f cdv A outer s H E hr tk hp =>
    have hN := (fs_Reckoner___len__).nd
    jb_one (js_ret (je_callB c_len d_len rfl (c.free 7) boot_len (ja_cons (je_new (jn_fldCut (i := 0) (FldX.mk' (c.fact 71) (c.fact 73)) rfl (.inl rfl) (po_int pe_int) po_no)) (ja_nil))))
theorem fs_Reckoner___str__ : FnScope ["self"] ["self"] (defScope (cm (top 60) 9)) := ⟨rfl, rfl, rfl, by decide +kernel, rfl, by decide +kernel, by decide +kernel⟩
theorem ok_Reckoner___str__ (c : OkL K mg) : MtX P w K mg base 2 "Reckoner" "__str__" (spG K 1 m_Reckoner___str__) :=
  mkM (N := ["self"]) (ps := ["self"]) (q := "Reckoner.__str__") (c.def_ 44 (d := dd_Reckoner___str__) rfl) (c.fact 71) (c.fact 84) fs_Reckoner___str__ (fun _ _ _ _ _ _ us hl => match us, hl with | [_], _ => rfl) fun f cdv A outer s H E hr tk hp =>
    have hN := (fs_Reckoner___str__).nd
    jb_one (js_ret (je_join (je_str) (je_new (jn_lst (ja_cons (je_callTy call_str_int d_str rfl (c.free 33) boot_str (ja_cons (je_fldIx (i := 0) (FldX.mk' (c.fact 71) (c.fact 73)) rfl (.inl rfl) pe_neg1) (ja_nil))) (ja_cons (je_op2 o_add d_add (je_op2 o_add d_add (je_str) (je_fn (ok_text_of c) (hr.mono (by decide)) rfl tk (ja_cons (je_fld (i := 0) (FldX.mk' (c.fact 71) (c.fact 72)) rfl (.inl rfl)) (ja_nil)))) (je_str)) (ja_nil)))))))
theorem fs_are_elements : FnScope ["ring", "value", "least", "most", "one"] ["ring", "value", "least", "most"] (defScope (top 62)) := ⟨rfl, rfl, rfl, by decide +kernel, rfl, by decide +kernel, by decide +kernel⟩
theorem ok_are_elements (c : OkL K mg) : Fn P w K mg base 3 "are_elements" (spP K 4 m_are_elements) :=
  mkP (N := ["ring", "value", "least", "most", "one"]) (ps := ["ring", "value", "least", "most"]) (c.def_ 45 (d := dd_are_elements) rfl) (c.glo 85) fs_are_elements (fun _ _ _ _ _ _ us hl => match us, hl with | [_, _, _, _], _ => rfl) fun f cdv A outer s H E hr tk hp =>
    have hN := (fs_are_elements).nd
    jb_cons (js_if (jw_t (jw_or (jt_not (jt_val (je_isi isTup rfl (c.free 0) rfl (c.free 6) boot_tuple (je_var (i := 1) rfl (.inl rfl))))) (jw_or1 (jt_not (jt_chain op_le d_cmp op_le d_cmp (je_var (i := 2) rfl (.inl rfl)) (je_callB c_len d_len rfl (c.free 7) boot_len (ja_cons (je_var (i := 1) rfl (.inl rfl)) (ja_nil))) (je_var (i := 3) rfl (.inl rfl))))))) (jb_one (js_ret (je_bl))) (jb_nil))
    (jb_one (js_ret (je_callB (cr_all rfl) d_all rfl (c.free 10) boot_all (ja_cons (je_new (jn_lc rfl hN (ji_seq (je_var (i := 1) rfl (.inl rfl))) (blkOk_by (own := [("one", 4)]) (by kernel_rfl)) (tgt_name 4) rfl (by decide) (fun _ _ _ _ _ => pg_name hN rfl (.inl rfl)) (fun _ _ _ _ _ => jts_nil) (fun _ _ _ _ _ => je_fn (ok_is_integer c) (hr.mono (by decide)) rfl takes_no (ja_cons (je_var (i := 4) rfl (.inl rfl)) (ja_cons (je_int) (ja_cons (je_op2 op_sub d_sub (je_fn (okm_size_of c) (hr.mono (by decide)) rfl takes_no (ja_cons (je_var (i := 0) rfl (.inr (.inl rfl))) (ja_nil))) (je_int)) (ja_nil))))))) (ja_nil)))))
theorem fs_value_at : FnScope ["ring", "coefficients", "x", "result", "one"] ["ring", "coefficients", "x"] (defScope (top 63)) := ⟨rfl, rfl, rfl, by decide +kernel, rfl, by decide +kernel, by decide +kernel⟩
theorem ok_value_at (c : OkL K mg) : Fn P w K mg base 3 "value_at" (spP K 3 m_value_at) :=
  mkP (N := ["ring", "coefficients", "x", "result", "one"]) (ps := ["ring", "coefficients", "x"]) (c.def_ 46 (d := dd_value_at) rfl) (c.glo 86) fs_value_at (fun _ _ _ _ _ _ us hl => match us, hl with | [_, _, _], _ => rfl) fun f cdv A outer s H E hr tk hp =>
    have hN := (fs_value_at).nd
    jb_cons (js_set (i := 3) hN rfl (.inl rfl) (je_int))
    (jb_cons (js_for hp rfl (ji_seq (je_rev (je_var (i := 1) rfl (.inl rfl)))) (jg_name (i := 4) hN rfl (.inl rfl)) (jb_one (js_set (i := 3) hN rfl (.inl rfl) (je_fn (okm_plus c) (hr.mono (by decide)) rfl tk (ja_cons (je_var (i := 0) rfl (.inl rfl)) (ja_cons (je_fn (okm_times c) (hr.mono (by decide)) rfl tk (ja_cons (je_var (i := 0) rfl (.inl rfl)) (ja_cons (je_var (i := 3) rfl (.inl rfl)) (ja_cons (je_var (i := 2) rfl (.inl rfl)) (ja_nil))))) (ja_cons (je_var (i := 4) rfl (.inl rfl)) (ja_nil))))))))
    (jb_one (js_ret (je_var (i := 3) rfl (.inl rfl)))))
theorem fs_value : FnScope ["ring", "coefficients", "x"] ["ring", "coefficients", "x"] (defScope (top 64)) := ⟨rfl, rfl, rfl, by decide +kernel, rfl, by decide +kernel, by decide +kernel⟩
theorem ok_value (c : OkL K mg) : Fn P w K mg base 4 "value" (spP K 3 m_value) :=
  mkP (N := ["ring", "coefficients", "x"]) (ps := ["ring", "coefficients", "x"]) (c.def_ 47 (d := dd_value) rfl) (c.glo 89) fs_value (fun _ _ _ _ _ _ us hl => match us, hl with | [_, _, _], _ => rfl) fun f cdv A outer s H E hr tk hp =>
    have hN := (fs_value).nd
    jb_cons (js_expr (je_fn (okm_check_ring c) (hr.mono (by decide)) rfl tk (ja_cons (je_var (i := 0) rfl (.inl rfl)) (ja_nil))))
    (jb_cons (js_if (jt_not (jt_val (je_fn (ok_are_elements c) (hr.mono (by decide)) rfl tk (ja_cons (je_var (i := 0) rfl (.inl rfl)) (ja_cons (je_var (i := 1) rfl (.inl rfl)) (ja_cons (je_int) (ja_cons (je_gint rfl (c.int 9)) (ja_nil)))))))) (jb_one (js_raiseF (c.exc 87) (c.glo 88) rfl tk rfl)) (jb_nil))
    (jb_cons (js_expr (je_fn (okm_check_element c) (hr.mono (by decide)) rfl tk (ja_cons (je_var (i := 0) rfl (.inl rfl)) (ja_cons (je_var (i := 2) rfl (.inl rfl)) (ja_nil)))))
    (jb_one (js_ret (je_fn (ok_value_at c) (hr.mono (by decide)) rfl tk (ja_cons (je_var (i := 0) rfl (.inl rfl)) (ja_cons (je_var (i := 1) rfl (.inl rfl)) (ja_cons (je_var (i := 2) rfl (.inl rfl)) (ja_nil)))))))))
theorem fs__law_cell_at : FnScope ["script", "k", "spare", "again"] ["script", "k"] (defScope (top 66)) := ⟨rfl, rfl, rfl, by decide +kernel, rfl, by decide +kernel, by decide +kernel⟩
theorem ok__law_cell_at (c : OkL K mg) : Fn P w K mg base 1 "_law_cell_at" (spS K 2 m__law_cell_at) :=
  mkS (N := ["script", "k", "spare", "again"]) (ps := ["script", "k"]) (c.def_ 48 (d := dd__law_cell_at) rfl) (c.glo 91) fs__law_cell_at (by decide) (fun _ _ _ _ _ _ us hl => match us, hl with | [_, _], _ => rfl) fun f cdv A outer s H E hr tk hp =>
    have hN := (fs__law_cell_at).nd
    jb_cons (js_if (jt_cmp op_lt d_cmp (je_var (i := 1) rfl (.inl rfl)) (je_slen (i := 0) rfl (.inl rfl) rfl (c.free 7)) (nomark _)) (jb_one (js_ret (je_sat (i := 0) rfl (.inl rfl) (je_var (i := 1) rfl (.inl rfl))))) (jb_nil))
    (jb_cons (js_if (jt_snil (i := 0) hr.units rfl (.inl rfl)) (jb_one (js_ret (je_int))) (jb_nil))
    (jb_cons (js_set (i := 2) hN rfl (.inl rfl) (je_sat (i := 0) rfl (.inl rfl) (je_op2 op_mod d_mod (je_var (i := 1) rfl (.inl rfl)) (je_slen (i := 0) rfl (.inl rfl) rfl (c.free 7)))))
    (jb_cons (js_for hp rfl (ji_range1 rfl (c.free 4) (ja_cons (je_callB (call_min2 rfl) d_min rfl (c.free 90) boot_min (ja_cons (je_op2 op_fdiv d_fdiv (je_var (i := 1) rfl (.inl rfl)) (je_slen (i := 0) rfl (.inl rfl) rfl (c.free 7))) (ja_cons (je_int) (ja_nil)))) (ja_nil))) (jg_name (i := 3) hN rfl (.inl rfl)) (jb_one (js_set (i := 2) hN rfl (.inl rfl) (je_op2 op_fdiv d_fdiv (je_var (i := 2) rfl (.inl rfl)) (je_int)))))
    (jb_one (js_ret (je_op2 o_add d_add (je_op2 o_add d_add (je_op2 o_mul d_mul (je_sat (i := 0) rfl (.inl rfl) (je_op2 op_mod d_mod (je_var (i := 1) rfl (.inl rfl)) (je_slen (i := 0) rfl (.inl rfl) rfl (c.free 7)))) (je_int)) (je_var (i := 1) rfl (.inl rfl))) (je_op2 o_mul d_mul (je_var (i := 2) rfl (.inl rfl)) (je_int))))))))
theorem fs__law_mixed : FnScope ["script", "k", "many", "spun"] ["script", "k", "many"] (defScope (top 67)) := ⟨rfl, rfl, rfl, by decide +kernel, rfl, by decide +kernel, by decide +kernel⟩
theorem ok__law_mixed (c : OkL K mg) : Fn P w K mg base 2 "_law_mixed" (spS K 3 m__law_mixed) :=
  mkS (N := ["script", "k", "many", "spun"]) (ps := ["script", "k", "many"]) (c.def_ 49 (d := dd__law_mixed) rfl) (c.glo 92) fs__law_mixed (by decide) (fun _ _ _ _ _ _ us hl => match us, hl with | [_, _, _], _ => rfl) fun f cdv A outer s H E hr tk hp =>
    have hN := (fs__law_mixed).nd
    jb_cons (js_set (i := 3) hN rfl (.inl rfl) (je_op2 op_mod d_mod (je_op2 o_add d_add (je_op2 o_add d_add (je_op2 o_mul d_mul (je_fnS (ok__law_cell_at c) (hr.mono (by decide)) rfl tk (ja_cons (je_var (i := 0) rfl (.inl rfl)) (ja_cons (je_var (i := 1) rfl (.inl rfl)) (ja_nil)))) (je_int)) (je_op2 o_mul d_mul (je_int) (je_var (i := 1) rfl (.inl rfl)))) (je_int)) (je_int)))
    (jb_one (js_ret (je_op2 op_mod d_mod (je_op2 op_mod d_mod (je_op2 op_mod d_mod (je_op2 op_pow d_pow (je_var (i := 3) rfl (.inl rfl)) (je_int)) (je_int)) (je_int)) (je_var (i := 2) rfl (.inl rfl)))))
theorem fs__law_draw : FnScope ["script", "town", "many"] ["script", "town", "many"] (defScope (top 68)) := ⟨rfl, rfl, rfl, by decide +kernel, rfl, by decide +kernel, by decide +kernel⟩
theorem ok__law_draw (c : OkL K mg) : Fn P w K mg base 3 "_law_draw" (spD K 3 m__law_draw) :=
  mkD (N := ["script", "town", "many"]) (ps := ["script", "town", "many"]) (c.def_ 50 (d := dd__law_draw) rfl) (c.glo 93) fs__law_draw (by decide) (fun _ _ _ _ _ _ us hl => match us, hl with | [_, _, _], _ => rfl) fun f cdv A outer s H E hr tk hp =>
    have hN := (fs__law_draw).nd
    jb_cons (js_expr (je_append (i := 1) rfl (.inl rfl) (je_int)))
    (jb_one (js_ret (je_fnS (ok__law_mixed c) (hr.mono (by decide)) rfl tk (ja_cons (je_var (i := 0) rfl (.inl rfl)) (ja_cons (je_callB c_len d_len rfl (c.free 7) boot_len (ja_cons (je_var (i := 1) rfl (.inl rfl)) (ja_nil))) (ja_cons (je_var (i := 2) rfl (.inl rfl)) (ja_nil)))))))
theorem fs__law_pick : FnScope ["script", "town", "some"] ["script", "town", "some"] (defScope (top 69)) := ⟨rfl, rfl, rfl, by decide +kernel, rfl, by decide +kernel, by decide +kernel⟩
theorem ok__law_pick (c : OkL K mg) : Fn P w K mg base 4 "_law_pick" (spD K 3 m__law_pick) :=
  mkD (N := ["script", "town", "some"]) (ps := ["script", "town", "some"]) (c.def_ 51 (d := dd__law_pick) rfl) (c.glo 94) fs__law_pick (by decide) (fun _ _ _ _ _ _ us hl => match us, hl with | [_, _, _], _ => rfl) fun f cdv A outer s H E hr tk hp =>
    have hN := (fs__law_pick).nd
    jb_one (js_ret (je_ix (je_var (i := 2) rfl (.inl rfl)) (je_fnD (ok__law_draw c) (hr.mono (by decide)) rfl tk (ja_cons (je_var (i := 0) rfl (.inl rfl)) (ja_cons (je_var (i := 1) rfl (.inl rfl)) (ja_cons (je_callB c_len d_len rfl (c.free 7) boot_len (ja_cons (je_var (i := 2) rfl (.inl rfl)) (ja_nil))) (ja_nil)))))))
theorem fs__law_some_ring : FnScope ["script", "town", "some", "p", "degree", "again"] ["script", "town"] (defScope (top 70)) := ⟨rfl, rfl, rfl, by decide +kernel, rfl, by decide +kernel, by decide +kernel⟩
theorem ok__law_some_ring (c : OkL K mg) : Fn P w K mg base 5 "_law_some_ring" (spD K 2 m__law_some_ring) :=
  mkD (N := ["script", "town", "some", "p", "degree", "again"]) (ps := ["script", "town"]) (c.def_ 52 (d := dd__law_some_ring) rfl) (c.glo 95) fs__law_some_ring (by decide) (fun _ _ _ _ _ _ us hl => match us, hl with | [_, _], _ => rfl) fun f cdv A outer s H E hr tk hp =>
    have hN := (fs__law_some_ring).nd
    jb_cons (js_set (i := 2) hN rfl (.inl rfl) (je_new (jn_lst (ja_cons (je_tup (ja_cons (je_int) (ja_cons (je_int) (ja_nil)))) (ja_cons (je_tup (ja_cons (je_int) (ja_cons (je_int) (ja_nil)))) (ja_cons (je_tup (ja_cons (je_int) (ja_cons (je_int) (ja_nil)))) (ja_cons (je_tup (ja_cons (je_int) (ja_cons (je_int) (ja_nil)))) (ja_cons (je_tup (ja_cons (je_int) (ja_cons (je_int) (ja_nil)))) (ja_cons (je_tup (ja_cons (je_int) (ja_cons (je_int) (ja_nil)))) (ja_cons (je_tup (ja_cons (je_int) (ja_cons (je_int) (ja_nil)))) (ja_cons (je_tup (ja_cons (je_int) (ja_cons (je_int) (ja_nil)))) (ja_cons (je_tup (ja_cons (je_int) (ja_cons (je_int) (ja_nil)))) (ja_cons (je_tup (ja_cons (je_int) (ja_cons (je_int) (ja_nil)))) (ja_cons (je_tup (ja_cons (je_int) (ja_cons (je_int) (ja_nil)))) (ja_cons (je_tup (ja_cons (je_int) (ja_cons (je_int) (ja_nil)))) (ja_nil))))))))))))))))
    (jb_cons (js_asg (je_fnD (ok__law_pick c) (hr.mono (by decide)) rfl tk (ja_cons (je_var (i := 0) rfl (.inr (.inl rfl))) (ja_cons (je_var (i := 1) rfl (.inr (.inl rfl))) (ja_cons (je_var (i := 2) rfl (.inl rfl)) (ja_nil))))) (jg_tup rfl (jgs_cons (i := 3) hN rfl (.inr rfl) (jgs_cons (i := 4) hN rfl (.inl rfl) (jgs_nil)))))
    (jb_one (js_ret (je_tup (ja_cons (je_var (i := 3) rfl (.inr (.inl rfl))) (ja_cons (je_callTy call_tuple_of d_tuple rfl (c.free 6) boot_tuple (ja_cons (je_new (jn_lc rfl hN (ji_range1 rfl (c.free 4) (ja_cons (je_var (i := 4) rfl (.inl rfl)) (ja_nil))) (blkOk_by (own := [("again", 5)]) (by kernel_rfl)) (tgt_name 5) rfl (by decide) (fun _ _ _ _ _ => pg_name hN rfl (.inl rfl)) (fun _ _ _ _ _ => jts_nil) (fun _ _ _ _ _ => je_fnD (ok__law_draw c) (hr.mono (by decide)) rfl takes_no (ja_cons (je_var (i := 0) rfl (.inr (.inl rfl))) (ja_cons (je_var (i := 1) rfl (.inr (.inl rfl))) (ja_cons (je_var (i := 3) rfl (.inr (.inl rfl))) (ja_nil))))))) (ja_nil))) (ja_nil)))))))
theorem fs__law_known_fields : FnScope ["some"] [] (defScope (top 71)) := ⟨rfl, rfl, rfl, by decide +kernel, rfl, by decide +kernel, by decide +kernel⟩
theorem ok__law_known_fields (c : OkL K mg) : Fn P w K mg base 1 "_law_known_fields" (spP K 0 m__law_known_fields) :=
  mkP (N := ["some"]) (ps := []) (c.def_ 53 (d := dd__law_known_fields) rfl) (c.glo 96) fs__law_known_fields (fun _ _ _ _ _ _ us hl => match us, hl with | [], _ => rfl) fun f cdv A outer s H E hr tk hp =>
    have hN := (fs__law_known_fields).nd
    jb_cons (js_own (i := 0) hN rfl (.inl rfl) (jn_lst (ja_cons (je_tup (ja_cons (je_int) (ja_cons (je_tup (ja_cons (je_int) (ja_nil))) (ja_nil)))) (ja_cons (je_tup (ja_cons (je_int) (ja_cons (je_tup (ja_cons (je_int) (ja_nil))) (ja_nil)))) (ja_cons (je_tup (ja_cons (je_int) (ja_cons (je_tup (ja_cons (je_int) (ja_cons (je_int) (ja_nil)))) (ja_nil)))) (ja_cons (je_tup (ja_cons (je_int) (ja_cons (je_tup (ja_cons (je_int) (ja_cons (je_int) (ja_cons (je_int) (ja_nil))))) (ja_nil)))) (ja_cons (je_tup (ja_cons (je_int) (ja_cons (je_tup (ja_cons (je_int) (ja_cons (je_int) (ja_cons (je_int) (ja_nil))))) (ja_nil)))) (ja_cons (je_tup (ja_cons (je_int) (ja_cons (je_tup (ja_cons (je_int) (ja_cons (je_int) (ja_cons (je_int) (ja_cons (je_int) (ja_nil)))))) (ja_nil)))) (ja_cons (je_tup (ja_cons (je_int) (ja_cons (je_tup (ja_cons (je_int) (ja_cons (je_int) (ja_cons (je_int) (ja_cons (je_int) (ja_nil)))))) (ja_nil)))) (ja_nil))))))))))
    (jb_cons (js_expr (je_extend (i := 0) rfl (.inl rfl) (je_new (jn_lst (ja_cons (je_tup (ja_cons (je_int) (ja_cons (je_tup (ja_cons (je_int) (ja_cons (je_int) (ja_cons (je_int) (ja_cons (je_int) (ja_nil)))))) (ja_nil)))) (ja_cons (je_tup (ja_cons (je_int) (ja_cons (je_tup (ja_cons (je_int) (ja_cons (je_int) (ja_cons (je_int) (ja_cons (je_int) (ja_cons (je_int) (ja_nil))))))) (ja_nil)))) (ja_cons (je_tup (ja_cons (je_int) (ja_cons (je_tup (ja_cons (je_int) (ja_nil))) (ja_nil)))) (ja_cons (je_tup (ja_cons (je_int) (ja_cons (je_tup (ja_cons (je_int) (ja_cons (je_int) (ja_nil)))) (ja_nil)))) (ja_cons (je_tup (ja_cons (je_int) (ja_cons (je_tup (ja_cons (je_int) (ja_cons (je_int) (ja_nil)))) (ja_nil)))) (ja_cons (je_tup (ja_cons (je_int) (ja_cons (je_tup (ja_cons (je_int) (ja_cons (je_int) (ja_cons (je_int) (ja_nil))))) (ja_nil)))) (ja_nil)))))))))))
    (jb_one (js_ret (je_op2 o_add d_add (je_var (i := 0) rfl (.inl rfl)) (je_new (jn_lst (ja_cons (je_tup (ja_cons (je_int) (ja_cons (je_tup (ja_cons (je_int) (ja_nil))) (ja_nil)))) (ja_cons (je_tup (ja_cons (je_int) (ja_cons (je_tup (ja_cons (je_int) (ja_cons (je_int) (ja_nil)))) (ja_nil)))) (ja_cons (je_tup (ja_cons (je_int) (ja_cons (je_tup (ja_cons (je_int) (ja_cons (je_int) (ja_nil)))) (ja_nil)))) (ja_cons (je_tup (ja_cons (je_int) (ja_cons (je_tup (ja_cons (je_int) (ja_nil))) (ja_nil)))) (ja_cons (je_tup (ja_cons (je_int) (ja_cons (je_tup (ja_cons (je_int) (ja_nil))) (ja_nil)))) (ja_cons (je_tup (ja_cons (je_int) (ja_cons (je_tup (ja_cons (je_int) (ja_nil))) (ja_nil)))) (ja_nil)))))))))))))
theorem fs__law_some_field : FnScope ["script", "town"] ["script", "town"] (defScope (top 72)) := ⟨rfl, rfl, rfl, by decide +kernel, rfl, by decide +kernel, by decide +kernel⟩
theorem ok__law_some_field (c : OkL K mg) : Fn P w K mg base 5 "_law_some_field" (spD K 2 m__law_some_field) :=
  mkD (N := ["script", "town"]) (ps := ["script", "town"]) (c.def_ 54 (d := dd__law_some_field) rfl) (c.glo 97) fs__law_some_field (by decide) (fun _ _ _ _ _ _ us hl => match us, hl with | [_, _], _ => rfl) fun f cdv A outer s H E hr tk hp =>
    have hN := (fs__law_some_field).nd
    jb_one (js_ret (je_fnD (ok__law_pick c) (hr.mono (by decide)) rfl tk (ja_cons (je_var (i := 0) rfl (.inl rfl)) (ja_cons (je_var (i := 1) rfl (.inl rfl)) (ja_cons (je_fn0 (ok__law_known_fields c) (hr.mono (by decide)) rfl) (ja_nil))))))
theorem fs__law_shared_part : FnScope ["one", "other"] ["one", "other"] (defScope (top 73)) := ⟨rfl, rfl, rfl, by decide +kernel, rfl, by decide +kernel, by decide +kernel⟩
theorem ok__law_shared_part (c : OkL K mg) : Fn P w K mg base 1 "_law_shared_part" (spP K 2 m__law_shared_part) :=
  mkP (N := ["one", "other"]) (ps := ["one", "other"]) (c.def_ 55 (d := dd__law_shared_part) rfl) (c.glo 98) fs__law_shared_part (fun _ _ _ _ _ _ us hl => match us, hl with | [_, _], _ => rfl) fun f cdv A outer s H E hr tk hp =>
    have hN := (fs__law_shared_part).nd
    jb_cons (js_while 100 hp (jt_cmp op_gt d_cmp (je_var (i := 0) rfl (.inl rfl)) (je_int) (nomark _)) (jb_one (js_par (i := 0) (j := 1) rfl hN rfl rfl (by decide) rfl rfl (ja_cons (je_op2 op_mod d_mod (je_var (i := 1) rfl (.inl rfl)) (je_var (i := 0) rfl (.inl rfl))) (ja_cons (je_var (i := 0) rfl (.inl rfl)) (ja_nil))) rfl)))
    (jb_one (js_ret (je_var (i := 1) rfl (.inl rfl))))
theorem fs_law : FnScope ["script", "town", "own", "read", "x", "y", "q", "base", "r", "exponent", "low", "again"] ["script"] (defScope (top 74)) := ⟨rfl, rfl, rfl, by decide +kernel, rfl, by decide +kernel, by decide +kernel⟩
theorem ba_law : BdArgs "law" (defArgs (top 74)) (defBody (top 74)) (defScope (top 74)) ["script"] := fun _ _ _ _ _ _ us hl => match us, hl with | [_], _ => rfl
theorem bd_law (c : OkL K mg) : BdOk P w K mg base ["script", "town", "own", "read", "x", "y", "q", "base", "r", "exponent", "low", "again"] "law" (defBody (top 74)) (defScope (top 74)) 8 g_law16 := fun f cdv A outer s H E hr tk hp =>
    have hN := fs_law.nd
    jb_cons (js_own (i := 1) hN rfl (.inl rfl) (jn_lst (ja_nil)))
    (jb_cons (js_set (i := 2) hN rfl (.inl rfl) (je_fnD (ok__law_some_ring c) (hr.mono (by decide)) rfl tk (ja_cons (je_var (i := 0) rfl (.inl rfl)) (ja_cons (je_var (i := 1) rfl (.inl rfl)) (ja_nil)))))
    (jb_cons (js_if (jt_cmp (op_eqD hr.units) d_eq (je_fnD (ok__law_draw c) (hr.mono (by decide)) rfl tk (ja_cons (je_var (i := 0) rfl (.inl rfl)) (ja_cons (je_var (i := 1) rfl (.inl rfl)) (ja_cons (je_int) (ja_nil))))) (je_int) (nomark _)) (jb_one (js_set (i := 2) hN rfl (.inl rfl) (je_fnD (ok__law_some_field c) (hr.mono (by decide)) rfl tk (ja_cons (je_var (i := 0) rfl (.inl rfl)) (ja_cons (je_var (i := 1) rfl (.inl rfl)) (ja_nil)))))) (jb_nil))
    (jb_cons (js_set (i := 3) hN rfl (.inl rfl) (je_fn (ok_parse_ring c) (hr.mono (by decide)) rfl tk (ja_cons (je_fn (ok_format_ring c) (hr.mono (by decide)) rfl tk (ja_cons (je_var (i := 2) rfl (.inl rfl)) (ja_nil))) (ja_nil))))
    (jb_cons (js_if (jt_cmp (op_neD hr.units) d_ne (je_var (i := 3) rfl (.inl rfl)) (je_var (i := 2) rfl (.inl rfl)) (nomark _)) (jb_one (js_ret (je_bl))) (jb_nil))
    (jb_cons (js_if (jt_not (jt_val (je_fn (okm_is_field c) (hr.mono (by decide)) rfl tk (ja_cons (je_var (i := 3) rfl (.inl rfl)) (ja_nil))))) (jb_cons (js_asg (je_fn (ok_paper c) (hr.mono (by decide)) rfl tk (ja_cons (je_var (i := 3) rfl (.inl rfl)) (ja_nil))) (jg_tup rfl (jgs_cons (i := 4) hN rfl (.inl rfl) (jgs_cons (i := 5) hN rfl (.inl rfl) (jgs_nil)))))
    (jb_one (js_ret (je_and (je_cmp o_is d_is (je_fn (ok_is_paper c) (hr.mono (by decide)) rfl tk (ja_cons (je_var (i := 3) rfl (.inl rfl)) (ja_cons (je_tup (ja_cons (je_var (i := 4) rfl (.inl rfl)) (ja_cons (je_var (i := 5) rfl (.inl rfl)) (ja_nil)))) (ja_nil)))) (je_bl) (nomark _)) (je_and (je_cmp (op_eqD hr.units) d_eq (je_fn (okm_multiply c) (hr.mono (by decide)) rfl tk (ja_cons (je_var (i := 3) rfl (.inl rfl)) (ja_cons (je_var (i := 4) rfl (.inl rfl)) (ja_cons (je_var (i := 5) rfl (.inl rfl)) (ja_nil))))) (je_int) (nomark _)) (je_one (je_cmp o_isnot d_isnot (je_fn (ok_factors c) (hr.mono (by decide)) rfl tk (ja_cons (je_var (i := 3) rfl (.inl rfl)) (ja_nil))) (je_non) (nomark _)))))))) (jb_nil))
    (jb_cons (js_set (i := 6) hN rfl (.inl rfl) (je_fn (okm_size c) (hr.mono (by decide)) rfl tk (ja_cons (je_var (i := 3) rfl (.inl rfl)) (ja_nil))))
    (jb_cons (js_set (i := 7) hN rfl (.inl rfl) (je_fnD (ok__law_pick c) (hr.mono (by decide)) rfl tk (ja_cons (je_var (i := 0) rfl (.inl rfl)) (ja_cons (je_var (i := 1) rfl (.inl rfl)) (ja_cons (je_fn (ok_generators c) (hr.mono (by decide)) rfl tk (ja_cons (je_var (i := 3) rfl (.inl rfl)) (ja_nil))) (ja_nil))))))
    (jb_cons (js_mk (i := 8) hN rfl (.inl rfl) (jm_make (ok_Reckoner___init__ c) (hr.mono (by decide)) rfl tk (ja_cons (je_var (i := 3) rfl (.inl rfl)) (ja_cons (je_int) (ja_nil)))))
    (jb_cons (js_for hp rfl (ji_range1 rfl (c.free 4) (ja_cons (je_op2 op_sub d_sub (je_var (i := 6) rfl (.inl rfl)) (je_int)) (ja_nil))) (jg_name (i := 9) hN rfl (.inl rfl)) (jb_cons (js_set (i := 4) hN rfl (.inl rfl) (je_mth0 (j := 8) (ok_Reckoner_element c) (hr.mono (by decide)) tk rfl (.inl rfl)))
    (jb_cons (js_if (jw_t (jw_or (jt_cmp (op_neD hr.units) d_ne (je_fn (ok_logarithm c) (hr.mono (by decide)) rfl tk (ja_cons (je_var (i := 3) rfl (.inl rfl)) (ja_cons (je_var (i := 7) rfl (.inl rfl)) (ja_cons (je_var (i := 4) rfl (.inl rfl)) (ja_nil))))) (je_var (i := 9) rfl (.inl rfl)) (nomark _)) (jw_or1 (jt_cmp (op_neD hr.units) d_ne (je_fn (okm_power c) (hr.mono (by decide)) rfl tk (ja_cons (je_var (i := 3) rfl (.inl rfl)) (ja_cons (je_var (i := 7) rfl (.inl rfl)) (ja_cons (je_var (i := 9) rfl (.inl rfl)) (ja_nil))))) (je_var (i := 4) rfl (.inl rfl)) (nomark _))))) (jb_one (js_ret (je_bl))) (jb_nil))
    (jb_cons (js_if (jw_t (jw_or (jt_cmp (op_neD hr.units) d_ne (je_op2 o_mul d_mul (je_fn (ok_order c) (hr.mono (by decide)) rfl tk (ja_cons (je_var (i := 3) rfl (.inl rfl)) (ja_cons (je_var (i := 4) rfl (.inl rfl)) (ja_nil)))) (je_fn (ok__law_shared_part c) (hr.mono (by decide)) rfl tk (ja_cons (je_var (i := 9) rfl (.inl rfl)) (ja_cons (je_op2 op_sub d_sub (je_var (i := 6) rfl (.inl rfl)) (je_int)) (ja_nil))))) (je_op2 op_sub d_sub (je_var (i := 6) rfl (.inl rfl)) (je_int)) (nomark _)) (jw_or1 (jt_cmp (op_neD hr.units) d_ne (je_fn (okm_multiply c) (hr.mono (by decide)) rfl tk (ja_cons (je_var (i := 3) rfl (.inl rfl)) (ja_cons (je_var (i := 4) rfl (.inl rfl)) (ja_cons (je_fn (ok_inverse c) (hr.mono (by decide)) rfl tk (ja_cons (je_var (i := 3) rfl (.inl rfl)) (ja_cons (je_var (i := 4) rfl (.inl rfl)) (ja_nil)))) (ja_nil))))) (je_int) (nomark _))))) (jb_one (js_ret (je_bl))) (jb_nil))
    (jb_one (js_expr (je_mth (j := 8) (ok_Reckoner_multiply c) (hr.mono (by decide)) tk rfl (.inl rfl) (ja_cons (je_var (i := 7) rfl (.inl rfl)) (ja_nil)))))))))
    (jb_cons (js_if (jw_t (jw_or (jt_cmp (op_neD hr.units) d_ne (je_mth0 (j := 8) (ok_Reckoner_element c) (hr.mono (by decide)) tk rfl (.inl rfl)) (je_int) (nomark _)) (jw_or (jt_cmp (op_neD hr.units) d_ne (je_lenSet rfl rfl (c.free 7) rfl (c.free 57) (je_mth0 (j := 8) (ok_Reckoner_path c) (hr.mono (by decide)) tk rfl (.inl rfl))) (je_op2 op_sub d_sub (je_var (i := 6) rfl (.inl rfl)) (je_int)) (nomark _)) (jw_or1 (jt_cmp (op_neD hr.units) d_ne (je_lenI (j := 8) (ok_Reckoner___len__ c) (hr.mono (by decide)) rfl (.inl rfl) rfl (c.free 7)) (je_op2 op_sub d_sub (je_var (i := 6) rfl (.inl rfl)) (je_int)) (nomark _)))))) (jb_one (js_ret (je_bl))) (jb_nil))
    (jb_cons (js_set (i := 4) hN rfl (.inl rfl) (je_fnD (ok__law_pick c) (hr.mono (by decide)) rfl tk (ja_cons (je_var (i := 0) rfl (.inl rfl)) (ja_cons (je_var (i := 1) rfl (.inl rfl)) (ja_cons (je_mth0 (j := 8) (ok_Reckoner_path c) (hr.mono (by decide)) tk rfl (.inl rfl)) (ja_nil))))))
    (jb_cons (js_set (i := 10) hN rfl (.inl rfl) (je_fn (ok_least_polynomial c) (hr.mono (by decide)) rfl tk (ja_cons (je_var (i := 3) rfl (.inl rfl)) (ja_cons (je_var (i := 4) rfl (.inl rfl)) (ja_nil)))))
    (jb_cons (js_if (jw_t (jw_or (jt_cmp (op_neD hr.units) d_ne (je_fn (ok_value c) (hr.mono (by decide)) rfl tk (ja_cons (je_var (i := 3) rfl (.inl rfl)) (ja_cons (je_var (i := 10) rfl (.inl rfl)) (ja_cons (je_var (i := 4) rfl (.inl rfl)) (ja_nil))))) (je_int) (nomark _)) (jw_or1 (jt_cmp (op_neD hr.units) d_ne (je_callB c_len d_len rfl (c.free 7) boot_len (ja_cons (je_var (i := 10) rfl (.inl rfl)) (ja_nil))) (je_op2 o_add d_add (je_callB c_len d_len rfl (c.free 7) boot_len (ja_cons (je_fn (ok_conjugates c) (hr.mono (by decide)) rfl tk (ja_cons (je_var (i := 3) rfl (.inl rfl)) (ja_cons (je_var (i := 4) rfl (.inl rfl)) (ja_nil)))) (ja_nil))) (je_int)) (nomark _))))) (jb_one (js_ret (je_bl))) (jb_nil))
    (jb_cons (js_for hp rfl (ji_range1 rfl (c.free 4) (ja_cons (je_op2 op_sub d_sub (je_var (i := 6) rfl (.inl rfl)) (je_int)) (ja_nil))) (jg_name (i := 11) hN rfl (.inl rfl)) (jb_one (js_expr (je_mth0 (j := 8) (ok_Reckoner_undo c) (hr.mono (by decide)) tk rfl (.inl rfl)))))
    (jb_one (js_ret (je_and (je_cmp (op_eqD hr.units) d_eq (je_mth0 (j := 8) (ok_Reckoner_path c) (hr.mono (by decide)) tk rfl (.inl rfl)) (je_new (jn_lst (ja_cons (je_int) (ja_nil)))) (nomark _)) (je_one (je_cmp (op_eqD hr.units) d_eq (je_strI (j := 8) (ok_Reckoner___str__ c) (hr.mono (by decide)) rfl (.inl rfl) rfl (c.free 33)) (je_op2 o_add d_add (je_op2 o_add d_add (je_str) (je_fn (ok_format_ring c) (hr.mono (by decide)) rfl tk (ja_cons (je_var (i := 3) rfl (.inl rfl)) (ja_nil)))) (je_str)) (nomark _))))))))))))))))))))
theorem ok_law {fd : FuncData} (c : OkL K mg) (F : FunD K "law" "law" (defArgs (top 74)) (defBody (top 74)) (defScope (top 74)) [] [] (He.ga K "law") fd) : FnOk P w K mg base (L2N.CX P w) 9 (He.ga K "law") fd ["script"] (spS K 1 m_law16) :=
  fn_script F fs_law (by decide) ((bd_law c).go _)
end
end Pf
namespace Pf
open PySem PySem.Spec PyProof.Rows L2
abbrev hk : PySem.W.Hook := hookP 4 fa fn ex
def ob (s : PySem.W.SharedT) : He.AlD := obsPG 4 fa fn ex (HandSHeadRun.getT s)
theorem ob_eq (s : PySem.W.SharedT) : ob s = hk.obs s.abs := obsPG_eq (HandSHeadRun.getT_eq s)
def loose : List PySem.Str := (["_wall", "FieldError", "InvalidRing", "NotField", "IsField", "InvalidElement", "InvalidNumber", "InvalidValues", "IsZero", "NotGenerator", "NothingToUndo", "ParseError", "MOST", "PRIMES", "is_integer", "times_itself", "is_ring", "check_ring", "size_of", "size", "check_element", "check_two", "digits_of", "element_of", "plus", "times", "minus", "raised", "multiply", "power"] : List PySem.Str) ++ (["DIGITS", "text_of", "format_ring", "parse_ring", "divided", "lower_parts", "split", "is_field", "check_field", "factors", "paper", "is_paper", "path_of", "check_both", "conjugates", "least_polynomial", "check_nonzero", "inverse_of", "inverse", "order_of", "order", "generators", "logarithm", "Reckoner", "are_elements", "value_at", "value", "_law_cell_at", "_law_mixed", "_law_draw"] : List PySem.Str) ++ (["_law_pick", "_law_some_ring", "_law_known_fields", "_law_some_field", "_law_shared_part"] : List PySem.Str)
def KT (s : PySem.W.SharedT) : PySem.W.Frag := He.frG (HandSHeadRun.getT s) (He.asD (HandSHeadRun.getT s) 4)
open PySem PySem.W PySem.Calls HandSHeadRun in
theorem run_a (w : World) : ∀ os : OsState, (endF (stepQ (denQ tabQ) (PySem.W.OpenLaw.row PySem.Challenge.rw_powerfields_k16_whole_from_text_to_recko).prog w) 8000 (PySem.W.OpenLaw.row PySem.Challenge.rw_powerfields_k16_whole_from_text_to_recko).prog w os).map (fun s => (looksF (PySem.W.OpenLaw.row PySem.Challenge.rw_powerfields_k16_whole_from_text_to_recko).prog (boot_heap w.params) s.abs, seenQ (PySem.W.view (PySem.W.OpenLaw.row PySem.Challenge.rw_powerfields_k16_whole_from_text_to_recko).prog [74]) loose (importedModules (PySem.W.OpenLaw.row PySem.Challenge.rw_powerfields_k16_whole_from_text_to_recko).prog.main.body) (fun s => xlAt (PySem.W.view (PySem.W.OpenLaw.row PySem.Challenge.rw_powerfields_k16_whole_from_text_to_recko).prog [74]) [] s && recOk (PySem.W.OpenLaw.row PySem.Challenge.rw_powerfields_k16_whole_from_text_to_recko).toRowW.records s) s.abs)) = some (true, openGood (PySem.W.view (PySem.W.OpenLaw.row PySem.Challenge.rw_powerfields_k16_whole_from_text_to_recko).prog [74]) loose) := by
  intro os
  kernel_rfl
open PySem PySem.W PySem.Calls HandSHeadRun in
theorem run_b (w : World) : ∀ os : OsState, (endF (stepQ (denQ tabQ) (PySem.W.OpenLaw.row PySem.Challenge.rw_powerfields_k16_whole_from_text_to_recko).prog w) 8000 (PySem.W.OpenLaw.row PySem.Challenge.rw_powerfields_k16_whole_from_text_to_recko).prog w os).map (fun s => (fa.all fun f => f.ok (KT s))) = some (true) := by
  intro os
  kernel_rfl
open PySem PySem.W PySem.Calls HandSHeadRun in
theorem run_c (w : World) : ∀ os : OsState, (endF (stepQ (denQ tabQ) (PySem.W.OpenLaw.row PySem.Challenge.rw_powerfields_k16_whole_from_text_to_recko).prog w) 8000 (PySem.W.OpenLaw.row PySem.Challenge.rw_powerfields_k16_whole_from_text_to_recko).prog w os).map (fun s => (fn.all fun d => d.ok (KT s))) = some (true) := by
  intro os
  kernel_rfl
open PySem PySem.W PySem.Calls HandSHeadRun in
theorem run_d (w : World) : ∀ os : OsState, (endF (stepQ (denQ tabQ) (PySem.W.OpenLaw.row PySem.Challenge.rw_powerfields_k16_whole_from_text_to_recko).prog w) 8000 (PySem.W.OpenLaw.row PySem.Challenge.rw_powerfields_k16_whole_from_text_to_recko).prog w os).map (fun s => ex (KT s)) = some (true) := by
  intro os
  kernel_rfl
open PySem PySem.W PySem.Calls HandSHeadRun in
theorem run_e (w : World) : ∀ os : OsState, (endF (stepQ (denQ tabQ) (PySem.W.OpenLaw.row PySem.Challenge.rw_powerfields_k16_whole_from_text_to_recko).prog w) 8000 (PySem.W.OpenLaw.row PySem.Challenge.rw_powerfields_k16_whole_from_text_to_recko).prog w os).map (fun s => (fn.map fun d => He.fnW (KT s) d.at_)) = some (fn.map He.DefD.val) := by
  intro os
  kernel_rfl
theorem run (w : World) : HandSHeadRun.RunEq (PySem.W.OpenLaw.row PySem.Challenge.rw_powerfields_k16_whole_from_text_to_recko) (PySem.W.view (PySem.W.OpenLaw.row PySem.Challenge.rw_powerfields_k16_whole_from_text_to_recko).prog [74]) hk ob 8000 loose w := by
  intro os
  have ha := run_a w os
  have hb := run_b w os
  have hc := run_c w os
  have hd := run_d w os
  have he := run_e w os
  cases q : HandSHeadRun.endF (HandSHeadRun.stepQ (HandSHeadRun.denQ HandSHeadRun.tabQ) (PySem.W.OpenLaw.row PySem.Challenge.rw_powerfields_k16_whole_from_text_to_recko).prog w) 8000 (PySem.W.OpenLaw.row PySem.Challenge.rw_powerfields_k16_whole_from_text_to_recko).prog w os with
  | none => rw [q] at hb; cases hb
  | some s =>
    rw [q] at ha hb hc hd he
    have ha := Option.some.inj ha
    have hb : (fa.all fun f => f.ok (KT s)) = true := Option.some.inj hb
    have hc : (fn.all fun d => d.ok (KT s)) = true := Option.some.inj hc
    have hd : ex (KT s) = true := Option.some.inj hd
    have he : (fn.map fun d => He.fnW (KT s) d.at_) = fn.map He.DefD.val := Option.some.inj he
    have ho : ob s = (true, fn.map He.DefD.val) := by
      show ((((fa.all fun f => f.ok (KT s)) && fn.all fun d => d.ok (KT s)) && ex (KT s)), fn.map fun d => He.fnW (KT s) d.at_) = _
      rw [hb, hc, hd, he]
      rfl
    have h1 := congrArg Prod.fst ha
    have h2 := congrArg Prod.snd ha
    show some (_, _, ob s) = _
    rw [ho]
    exact congrArg some (Prod.ext h1 (Prod.ext h2 rfl))
theorem facts {P : Program} {w : World} {K : PySem.W.Frag} {h : Heap} {mg : Str → Option Value} {f : Addr} (X : K.In h) (G : h.Ns mainGlobals mg) (hfa : mg ("law" : Str) = some (.ref f)) (s : SaysP fa fn ex K) :
    ∃ fd : FuncData, (∀ (s : Shared) (v : Value), BindsTo s fd ⟨[v], []⟩ [("script", v)]) ∧ ∀ base : Heap, K.In base → base.Ns mainGlobals mg → FnOk P w K mg base CX0 9 f fd ["script"] (fun vs H Q _ => spS K 1 m_law16 vs H Q fun _ _ _ => False) := by
  have c : OkL K mg := ⟨h, X, G, s⟩
  obtain ⟨fd, F⟩ := c.def_ 56 (d := dd_law) rfl
  have e := hfa.symm.trans (c.glo 99)
  cases e
  exact ⟨fd, fun s v => FunD.bindsA (ps := ["script"]) F ba_law s [v] rfl, fun base _ _ => FnOk.no (ok_law c F)⟩
end Pf
open PySem PySem.W PySem.Calls PyProof.Rows
theorem Pf.holds (main : ∀ ns : List Int, ns.length ≤ 63 → Pf.m_law16 ns [] = .ok (.bool true)) : PySem.Challenge.rw_powerfields_k16_whole_from_text_to_recko.Holds := by
  w_on; o_law
  refine HandSHeadRun.head_any (r := OpenLaw.row PySem.Challenge.rw_powerfields_k16_whole_from_text_to_recko) (q := view (OpenLaw.row PySem.Challenge.rw_powerfields_k16_whole_from_text_to_recko).prog [74]) (H := Pf.hk) (ob := Pf.ob) (M := 8000) (loose := Pf.loose) (d := HandSHeadRun.topDef (OpenLaw.row PySem.Challenge.rw_powerfields_k16_whole_from_text_to_recko).prog 74) (kwd := []) Pf.ob_eq
    (by kernel_rfl) (fun s => by kernel_rfl) Pf.run (by kernel_rfl) (by kernel_rfl) (by kernel_rfl) (by rfl) (by first | assumption | decide +kernel) (by decide +kernel) ⟨rfl, rfl, rfl, rfl, rfl, by decide +kernel⟩ ?hw ?hc
  case hw => w_witness2
  case hc =>
    refine L2.walk_ofE (l := PySem.Challenge.rw_powerfields_k16_whole_from_text_to_recko) (n := 63) (k := 9) (x := "script") (CX := L2.CX0) rfl (by decide) (by kernel_rfl) ⟨rfl, by decide, by decide⟩ ?F (fun _ _ _ _ z => z)
    intro w mg fa h Y G hmg0
    obtain ⟨K, KX, c⟩ := Y
    have hmg : mg ("law" : PySem.Str) = some (.ref fa) := by
      have e : (HandSHeadRun.topDef (OpenLaw.row PySem.Challenge.rw_powerfields_k16_whole_from_text_to_recko).prog 74).name = ("law" : PySem.Str) := by kernel_rfl
      rw [← e]
      exact hmg0
    obtain ⟨fd, hb, hF⟩ := Pf.facts (P := (PySem.Challenge.rw_powerfields_k16_whole_from_text_to_recko).prog) (w := w) KX G hmg c
    refine ⟨K, fd, _, KX, hb, fun H a ns hl _ hS => ⟨rfl, H, a, [], ns, [], rfl, .refl, ⟨hS, hl⟩, .nil, ?_⟩, hF⟩
    rw [main ns hl]
    intro v H' F' _ _ _ _ z
    cases z
    rfl
namespace Pf
open PySem PySem.Spec PyProof.Rows L2
def fdN (i : Nat) : FD := fds.getD i ⟨2, [], 0, 0, 0, 0⟩
theorem s_fieldN (ns : List Int) (hn : ns.length ≤ 63) (t : Nat) (ht : t ≤ 9000) : ∃ i, i < 19 ∧ m__law_some_field ns (z0 t) [] = .ok (fdD (fdN i)) (z0 (t + 1)) := by
  obtain ⟨f, hf, e⟩ := s_some_field ns hn t ht
  obtain ⟨i, hi, rfl⟩ := List.getElem_of_mem hf
  refine ⟨i, hi, ?_⟩
  have : fdN i = fds[i] := by unfold fdN; simp [List.getD_eq_getElem?_getD, hi]
  rw [this]
  exact e
theorem fokN {i : Nat} (h : i < 19) : FOk (fdN i) := by
  have h' : i < fds.length := h
  have : fdN i = fds[i]'h' := by unfold fdN; simp [List.getD_eq_getElem?_getD, h']
  rw [this]
  exact fok (List.getElem_mem _)
def okT (o : O) : Bool := match o with
  | .rt (.bool true) _ => true
  | _ => false
theorem okT_ok {o : O} (h : okT o = true) : o.f = .ok (.bool true) := by
  cases o with
  | rt d e => cases d with
    | bool b => cases b with
      | true => rfl
      | false => cases h
    | _ => cases h
  | _ => cases h
theorem seq3 {a b c d : En → O} {e : En} : sSeq a (sSeq b (sSeq c d)) e = sSeq (sSeq a (sSeq b c)) d e := by
  unfold sSeq
  cases a e with
  | nx e1 =>
    dsimp only
    cases b e1 with
    | nx e2 =>
      dsimp only
    | _ => rfl
  | _ => rfl
end Pf
namespace Pf
open PySem PySem.Spec PyProof.Rows L2
/-! ### the same environment, but for the script -/
mutual
def eqD : D → D → Bool
  | .none, .none => true
  | .bool a, .bool b => a == b
  | .int i, .int j => decide (i = j)
  | .str x, .str y => decide (x = y)
  | .list xs, .list ys => eqDs xs ys
  | .tuple xs, .tuple ys => eqDs xs ys
  | _, _ => false
def eqDs : List D → List D → Bool
  | [], [] => true
  | x :: xs, y :: ys => eqD x y && eqDs xs ys
  | _, _ => false
end
mutual
theorem eqD_ok : ∀ {a b : D}, eqD a b = true → a = b
  | .none, b, h => by cases b <;> simp [eqD] at h ⊢
  | .bool x, b, h => by cases b <;> simp [eqD] at h ⊢; exact h
  | .int x, b, h => by cases b <;> simp [eqD] at h ⊢; exact h
  | .str x, b, h => by cases b <;> simp [eqD] at h ⊢; exact h
  | .list xs, b, h => by
    cases b <;> simp [eqD] at h ⊢
    exact eqDs_ok h
  | .tuple xs, b, h => by
    cases b <;> simp [eqD] at h ⊢
    exact eqDs_ok h
  | .dict xs, b, h => by cases b <;> simp [eqD] at h
theorem eqDs_ok : ∀ {a b : List D}, eqDs a b = true → a = b
  | [], [], _ => rfl
  | [], _ :: _, h => by simp [eqDs] at h
  | _ :: _, [], h => by simp [eqDs] at h
  | x :: xs, y :: ys, h => by
    simp [eqDs] at h
    rw [eqD_ok h.1, eqDs_ok h.2]
end
def eqK : Key → Key → Bool
  | .inl i, .inl j => decide (i = j)
  | .inr x, .inr y => decide (x = y)
  | _, _ => false
theorem eqK_ok {a b : Key} (h : eqK a b = true) : a = b := by
  cases a <;> cases b <;> simp [eqK] at h
  · rw [h]
  · rw [h]
def eqKl : List Key → List Key → Bool
  | [], [] => true
  | x :: xs, y :: ys => eqK x y && eqKl xs ys
  | _, _ => false
theorem eqKl_ok : ∀ {a b : List Key}, eqKl a b = true → a = b
  | [], [], _ => rfl
  | [], _ :: _, h => by simp [eqKl] at h
  | _ :: _, [], h => by simp [eqKl] at h
  | x :: xs, y :: ys, h => by
    simp [eqKl] at h
    rw [eqK_ok h.1, eqKl_ok h.2]
def eqKv {κ : Type} (q : κ → κ → Bool) : List (κ × D) → List (κ × D) → Bool
  | [], [] => true
  | x :: xs, y :: ys => q x.1 y.1 && (eqD x.2 y.2 && eqKv q xs ys)
  | _, _ => false
theorem eqKv_ok {κ : Type} {q : κ → κ → Bool} (hq : ∀ {a b}, q a b = true → a = b) : ∀ {a b : List (κ × D)}, eqKv q a b = true → a = b
  | [], [], _ => rfl
  | [], _ :: _, h => by simp [eqKv] at h
  | _ :: _, [], h => by simp [eqKv] at h
  | (x, d) :: xs, (y, e) :: ys, h => by
    simp [eqKv] at h
    rw [hq h.1, eqD_ok h.2.1, eqKv_ok hq h.2.2]
def eqFv : Fv → Fv → Bool
  | .da a, .da b => eqD a b
  | .li a, .li b => eqDs a b
  | _, _ => false
theorem eqFv_ok {a b : Fv} (h : eqFv a b = true) : a = b := by
  cases a <;> cases b <;> simp [eqFv] at h
  · rw [eqD_ok h]
  · rw [eqDs_ok h]
def eqFs : List (Str × Fv) → List (Str × Fv) → Bool
  | [], [] => true
  | x :: xs, y :: ys => decide (x.1 = y.1) && (eqFv x.2 y.2 && eqFs xs ys)
  | _, _ => false
theorem eqFs_ok : ∀ {a b : List (Str × Fv)}, eqFs a b = true → a = b
  | [], [], _ => rfl
  | [], _ :: _, h => by simp [eqFs] at h
  | _ :: _, [], h => by simp [eqFs] at h
  | (x, d) :: xs, (y, e) :: ys, h => by
    simp [eqFs] at h
    rw [h.1, eqFv_ok h.2.1, eqFs_ok h.2.2]
def eqO : Ob → Ob → Bool
  | .dk a, .dk b => eqKv eqK a b
  | .dt a, .dt b => eqKv eqKl a b
  | .ins c a, .ins d b => decide (c = d) && eqFs a b
  | _, _ => false
theorem eqO_ok {a b : Ob} (h : eqO a b = true) : a = b := by
  cases a <;> cases b <;> simp [eqO] at h
  · rw [eqKv_ok eqK_ok h]
  · rw [eqKv_ok eqKl_ok h]
  · rw [h.1, eqFs_ok h.2]
def eqS : Sl → Sl → Bool
  | .no, .no => true
  | .va a, .va b => eqD a b
  | .ow a xs, .ow b ys => a == b && eqDs xs ys
  | .ob a x, .ob b y => a == b && eqO x y
  | _, _ => false
theorem eqS_ok {a b : Sl} (h : eqS a b = true) : a = b := by
  cases a <;> cases b <;> simp [eqS] at h
  · rfl
  · rw [eqD_ok h]
  · rw [h.1, eqDs_ok h.2]
  · rw [h.1, eqO_ok h.2]
def eqSs : List Sl → List Sl → Bool
  | [], [] => true
  | x :: xs, y :: ys => eqS x y && eqSs xs ys
  | _, _ => false
theorem eqSs_ok : ∀ {a b : List Sl}, eqSs a b = true → a = b
  | [], [], _ => rfl
  | [], _ :: _, h => by simp [eqSs] at h
  | _ :: _, [], h => by simp [eqSs] at h
  | x :: xs, y :: ys, h => by
    simp [eqSs] at h
    rw [eqS_ok h.1, eqSs_ok h.2]
theorem seq2 {a b c : En → O} {e : En} : sSeq a (sSeq b c) e = sSeq (sSeq a b) c e := by
  unfold sSeq
  cases a e with
  | nx e1 => dsimp only
  | _ => rfl
theorem seq_as {a b c : En → O} : sSeq a (sSeq b c) = sSeq (sSeq a b) c := funext fun _ => seq2
theorem seq4 {a b c d r : En → O} {e : En} : sSeq a (sSeq b (sSeq c (sSeq d r))) e = sSeq (sSeq a (sSeq b (sSeq c d))) r e := by rw [seq_as (a := c), seq_as (a := b), seq_as (a := a)]
theorem seq5 {a b c d f r : En → O} {e : En} : sSeq a (sSeq b (sSeq c (sSeq d (sSeq f r)))) e = sSeq (sSeq a (sSeq b (sSeq c (sSeq d f)))) r e := by rw [seq_as (a := d), seq_as (a := c), seq_as (a := b), seq_as (a := a)]
theorem seq6 {a b c d f g r : En → O} {e : En} : sSeq a (sSeq b (sSeq c (sSeq d (sSeq f (sSeq g r))))) e = sSeq (sSeq a (sSeq b (sSeq c (sSeq d (sSeq f g))))) r e := by rw [seq_as (a := f), seq_as (a := d), seq_as (a := c), seq_as (a := b), seq_as (a := a)]
theorem seq7 {a b c d f g h r : En → O} {e : En} : sSeq a (sSeq b (sSeq c (sSeq d (sSeq f (sSeq g (sSeq h r)))))) e = sSeq (sSeq a (sSeq b (sSeq c (sSeq d (sSeq f (sSeq g h)))))) r e := by rw [seq_as (a := g), seq_as (a := f), seq_as (a := d), seq_as (a := c), seq_as (a := b), seq_as (a := a)]
theorem seq8 {a b c d f g h i r : En → O} {e : En} : sSeq a (sSeq b (sSeq c (sSeq d (sSeq f (sSeq g (sSeq h (sSeq i r))))))) e = sSeq (sSeq a (sSeq b (sSeq c (sSeq d (sSeq f (sSeq g (sSeq h i))))))) r e := by rw [seq_as (a := h), seq_as (a := g), seq_as (a := f), seq_as (a := d), seq_as (a := c), seq_as (a := b), seq_as (a := a)]
/-- it ends next, with the same slots behind the script's -/
def chkS (o : O) (tl : List Sl) : Bool := match o with
  | .nx (.sc _ :: tl') => eqSs tl' tl
  | _ => false
theorem chkS_ok {o : O} {tl : List Sl} (h : chkS o tl = true) : ∃ m, o = .nx (.sc m :: tl) := by
  unfold chkS at h
  split at h
  · rename_i m tl'
    exact ⟨m, by rw [eqSs_ok h]⟩
  · cases h
/-- the same, but for the slot k -/
def chk1 (k : Nat) (o : O) (tl : List Sl) : Bool := match o with
  | .nx (.sc _ :: tl') => eqSs (tl'.set k .no) tl
  | _ => false
theorem chk1_ok {k : Nat} {o : O} {tl : List Sl} (h : chk1 k o tl = true) : ∃ m s, o = .nx (.sc m :: tl.set k s) := by
  unfold chk1 at h
  split at h
  · rename_i m tl'
    have e := eqSs_ok h
    refine ⟨m, tl'[k]?.getD .no, ?_⟩
    rw [← e, List.set_set]
    by_cases hk : k < tl'.length
    · rw [List.getElem?_eq_getElem hk, Option.getD_some, List.set_getElem_self]
    · rw [List.set_eq_of_length_le (by omega)]
  · cases h
end Pf
namespace Pf
open PySem PySem.Spec PyProof.Rows L2
/-! ### what the defs tell over a field with tables, for any of its elements -/
def nL (l : List Nat) : List D := l.map fun (n : Nat) => PyData.int (n : Int)
theorem nL_len (l : List Nat) : (nL l).length = l.length := by simp [nL]
theorem nL_rev (l : List Nat) : (nL l).reverse = nL l.reverse := by simp [nL]
section
variable {f : FD} (F : FOk f) {x y : Nat}
include F
theorem q_times (hx : x < f.q) (hy : y < f.q) : mm_times [fdD f, .int x, .int y] = .ok (.int (f.t x y)) := by
  rw [me_times, ← F.tm x y hx hy]; exact s_times F.rv.toRg x y
theorem q_plus (hx : x < f.q) (hy : y < f.q) : mm_plus [fdD f, .int x, .int y] = .ok (.int (f.a x y)) := by
  rw [me_plus, ← F.pl x y hx hy]; exact s_plus F.rv.pos F.rv.pm F.rv.nm x y
theorem q_minus (hx : x < f.q) : mm_minus [fdD f, .int x] = .ok (.int (f.m x)) := by
  rw [me_minus, ← F.mi x hx]; exact s_minus F.rv.toRg x
theorem q_size_of : mm_size_of [fdD f] = .ok (.int f.q) := by rw [me_size_of, ← F.hq]; exact s_size_of F.rv.toRg
theorem q_size_here : mm__law_size_here [fdD f] = .ok (.int f.q) := by rw [me__law_size_here, ← F.hq]; exact s_size_here F.rv.toRg
theorem q_check_field : mm_check_field [fdD f] = .ok .none := by rw [me_check_field]; exact s_check_field F.rv F.sp
theorem q_check_ring : mm_check_ring [fdD f] = .ok .none := by rw [me_check_ring]; exact s_check_ring F.rv
theorem q_check_element (hx : x < f.q) : mm_check_element [fdD f, .int x] = .ok .none := by rw [me_check_element]; exact s_check_element F.rv.toRg (by omega) (F.lt hx)
theorem q_add (hx : x < f.q) (hy : y < f.q) : mm_add [fdD f, .int x, .int y] = .ok (.int (f.a x y)) := by
  rw [me_add, ← F.pl x y hx hy]; exact s_add F.rv (by omega) (F.lt hx) (by omega) (F.lt hy)
theorem q_multiply (hx : x < f.q) (hy : y < f.q) : mm_multiply [fdD f, .int x, .int y] = .ok (.int (f.t x y)) := by
  rw [me_multiply, ← F.tm x y hx hy]; exact s_multiply F.rv (by omega) (F.lt hx) (by omega) (F.lt hy)
theorem q_negative (hx : x < f.q) : mm_negative [fdD f, .int x] = .ok (.int (f.m x)) := by
  rw [me_negative, ← F.mi x hx]; exact s_negative F.rv (by omega) (F.lt hx)
theorem q_sum_here (hx : x < f.q) (hy : y < f.q) : mm__law_sum_here [fdD f, .int x, .int y] = .ok (.int (f.a x y)) := by
  rw [me__law_sum_here, ← F.pl x y hx hy, sum_eq]; exact s_plus F.rv.pos F.rv.pm F.rv.nm x y
theorem q_product_here (hx : x < f.q) (hy : y < f.q) : mm__law_product_here [fdD f, .int x, .int y] = .ok (.int (f.t x y)) := by
  rw [me__law_product_here, ← F.tm x y hx hy]; exact s_product F.rv.toRg x y
theorem q_raised {e : Nat} (hx : x < f.q) (he : e < 16384) : mm_raised [fdD f, .int x, .int e] = .ok (.int (f.pw 14 x e 1)) := by
  rw [me_raised, pw_one F x e he hx]; exact s_raised F.rv.toRg x e (Nat.lt_trans he (by decide))
theorem q_power {e : Nat} (hx : x < f.q) (he : e < 10000) : mm_power [fdD f, .int x, .int e] = .ok (.int (f.pw 14 x e 1)) := by
  rw [me_power, pw_one F x e (Nat.lt_trans he (by decide)) hx]; exact s_power F.rv (by omega) (F.lt hx) e (by omega)
theorem FOk.pw_lt {e : Nat} (hx : x < f.q) (he : e < 16384) : f.pw 14 x e 1 < f.q := (pw_ok F 14 x e 1 he hx (by have := F.q2; omega)).2
end
/-! ### values -/
def FD.vl (f : FD) (x : Nat) : List Nat → Nat
  | [] => 0
  | c :: cs => f.a (f.t (f.vl x cs) x) c
theorem FOk.vl_lt {f : FD} (F : FOk f) {x : Nat} (hx : x < f.q) : ∀ {cs : List Nat}, (∀ c ∈ cs, c < f.q) → f.vl x cs < f.q
  | [], _ => by have := F.q2; unfold FD.vl; omega
  | c :: cs, h => F.a_lt (F.t_lt (F.vl_lt hx fun c hc => h c (List.mem_cons_of_mem _ hc)) hx) (h c List.mem_cons_self)
theorem val_loop {f : FD} (F : FOk f) {x : Nat} (hx : x < f.q) (s1 : Sl) : ∀ (l : List Nat) (r : Nat) (s : Sl), r < f.q → (∀ c ∈ l, c < f.q) → ∃ s',
    forL (gN 4) (sSet 3 (eCall (Ar 3 mm_plus) (aCons (eVar 0) (aCons (eCall (Ar 3 mm_times) (aCons (eVar 0) (aCons (eVar 3) (aCons (eVar 2) (aNil))))) (aCons (eVar 4) (aNil)))))) (nL l) [.va (fdD f), s1, .va (.int x), .va (.int r), s] =
      .nx [.va (fdD f), s1, .va (.int x), .va (.int (l.foldl (fun r c => f.a (f.t r x) c) r : Nat)), s']
  | [], r, s, _, _ => ⟨s, rfl⟩
  | c :: l, r, s, hr, h => by
    have hc := h c List.mem_cons_self
    have ht := F.t_lt hr hx
    obtain ⟨s', e⟩ := val_loop F hx s1 l (f.a (f.t r x) c) (.va (.int c)) (F.a_lt ht hc) fun c hc => h c (List.mem_cons_of_mem _ hc)
    refine ⟨s', ?_⟩
    rw [List.foldl_cons, ← e]
    simp [nL, forL, gN, sSet, eCall, Ar, aCons, aNil, eVar, R.bnd, R.o, fzAll, fz, q_times F hr hx, q_plus F ht hc]
theorem s_value_at {f : FD} (F : FOk f) {x : Nat} (hx : x < f.q) {cs : List Nat} (h : ∀ c ∈ cs, c < f.q) : m_value_at [fdD f, .tuple (nL cs), .int x] = .ok (.int (f.vl x cs)) := by
  have q2 := F.q2
  obtain ⟨s', e⟩ := val_loop F hx (.va (.tuple (nL cs))) cs.reverse 0 .no (by omega) fun c hc => h c (List.mem_reverse.mp hc)
  have e2 : cs.reverse.foldl (fun r c => f.a (f.t r x) c) 0 = f.vl x cs := by
    rw [List.foldl_reverse]
    clear e h
    induction cs with
    | nil => rfl
    | cons c cs ih => rw [List.foldr_cons, ih]; rfl
  rw [e2, ← nL_rev] at e
  show (g_value_at [.va (fdD f), .va (.tuple (nL cs)), .va (.int x), .no, .no]).f = _
  unfold g_value_at
  exact seq_f [.va (fdD f), .va (.tuple (nL cs)), .va (.int x), .va (.int 0), .no] rfl (seq_f [.va (fdD f), .va (.tuple (nL cs)), .va (.int x), .va (.int (f.vl x cs)), s'] e rfl)
/-! ### tuples of elements -/
theorem ele_loop {f : FD} (F : FOk f) (s1 s2 s3 : Sl) : ∀ (l : List Nat), (∀ c ∈ l, c < f.q) →
    lcL (gN 4) bYes (eCall (Ar 3 m_is_integer) (aCons (eVar 4) (aCons (eC (.int 0)) (aCons (eOp2 gSub (eCall (Ar 1 mm_size_of) (aCons (eVar 0) (aNil))) (eC (.int 1))) (aNil))))) [4] (nL l) [.va (fdD f), s1, s2, s3, .no] =
      .ok (List.replicate l.length (.bool true)) [.va (fdD f), s1, s2, s3, .no]
  | [], _ => rfl
  | c :: l, h => by
    have hc := h c List.mem_cons_self
    have e := ele_loop F s1 s2 s3 l fun c hc => h c (List.mem_cons_of_mem _ hc)
    have e1 := s_isint c 0 ((f.q : Int) - 1)
    have e2 : (decide (0 ≤ (c : Int)) && decide ((c : Int) ≤ (f.q : Int) - 1)) = true := by simp; omega
    rw [e2] at e1
    have g1 : gSub (.int f.q) (.int 1) = some (.int ((f.q : Int) - 1)) := rfl
    rw [List.length_cons, List.replicate_succ]
    have e3 : lcL (gN 4) bYes (eCall (Ar 3 m_is_integer) (aCons (eVar 4) (aCons (eC (.int 0)) (aCons (eOp2 gSub (eCall (Ar 1 mm_size_of) (aCons (eVar 0) (aNil))) (eC (.int 1))) (aNil))))) [4] (nL (c :: l)) [.va (fdD f), s1, s2, s3, .no] =
      (lcL (gN 4) bYes (eCall (Ar 3 m_is_integer) (aCons (eVar 4) (aCons (eC (.int 0)) (aCons (eOp2 gSub (eCall (Ar 1 mm_size_of) (aCons (eVar 0) (aNil))) (eC (.int 1))) (aNil))))) [4] (nL l) [.va (fdD f), s1, s2, s3, .no]).bnd fun ys e5 => .ok (.bool true :: ys) e5 := by
      conv => lhs; unfold lcL nL
      simp [gN, noX, bYes, R.bnd, eCall, Ar, aCons, aNil, eVar, eC, eOp2, lift2, rd, fzAll, fz, q_size_of F, g1, e1, wipeE, nL]
    rw [e3, e]
    rfl
theorem all_rep : ∀ n : Nat, bools (List.replicate n (.bool true)) = some (List.replicate n true)
  | 0 => rfl
  | n + 1 => by rw [List.replicate_succ, List.replicate_succ]; unfold bools; rw [all_rep n]; rfl
theorem s_are_elements {f : FD} (F : FOk f) {cs : List Nat} (h : ∀ c ∈ cs, c < f.q) {lo hi : Nat} (h1 : lo ≤ cs.length) (h2 : cs.length ≤ hi) (h3 : cs.length ≤ 10000) : m_are_elements [fdD f, .tuple (nL cs), .int lo, .int hi] = .ok (.bool true) := by
  have e := ele_loop F (.va (.tuple (nL cs))) (.va (.int lo)) (.va (.int hi)) cs h
  have h1' : (lo : Int) ≤ (cs.length : Int) := by omega
  have h2' : (cs.length : Int) ≤ (hi : Int) := by omega
  show (g_are_elements [.va (fdD f), .va (.tuple (nL cs)), .va (.int lo), .va (.int hi), .no]).f = _
  unfold g_are_elements
  refine seq_f [.va (fdD f), .va (.tuple (nL cs)), .va (.int lo), .va (.int hi), .no] ?_ ?_
  · simp [sIf, bOr, bNot, bT, eOp1, lift1, gIsi, tyD, kTup, eVar, R.bnd, R.o, rd, eChain, eB, aCons, aNil, rdAll, gLen, lift2, gLe, gCmp, nL_len, h1', h2', sNil]
  · have z : (szL (nL cs).length && plainAt [.va (fdD f), .va (.tuple (nL cs)), .va (.int lo), .va (.int hi), .no] [4]) = true := by
      rw [nL_len, szL_ok h3]; rfl
    have w : wipeE [Sl.va (fdD f), .va (.tuple (nL cs)), .va (.int lo), .va (.int hi), .no] [4] = [.va (fdD f), .va (.tuple (nL cs)), .va (.int lo), .va (.int hi), .no] := rfl
    have ga : gAll [.list (List.replicate cs.length (.bool true))] = some (.bool true) := by
      unfold gAll
      simp only
      rw [all_rep]
      simp
    simp only [sRet, eB, aCons, aNil, eN, nLc, lSeq, itemsOf, eVar, R.bnd, R.o, rd, List.getElem?_cons_zero, List.getElem?_cons_succ, z, if_true, w, e, rdAll, ga, fz, O.f]
theorem s_value {f : FD} (F : FOk f) {x : Nat} (hx : x < f.q) {cs : List Nat} (h : ∀ c ∈ cs, c < f.q) (h1 : 1 ≤ cs.length) (h2 : cs.length ≤ 32) : m_value [fdD f, .tuple (nL cs), .int x] = .ok (.int (f.vl x cs)) := by
  have e1 : m_are_elements [fdD f, .tuple (nL cs), .int 1, .int 32] = .ok (.bool true) := s_are_elements F h (lo := 1) (hi := 32) h1 h2 (by omega)
  have e2 := s_value_at F hx h
  show (g_value [.va (fdD f), .va (.tuple (nL cs)), .va (.int x)]).f = _
  unfold g_value
  simp [sSeq, sDrop, sIf, bNot, bT, sRet, eCall, Ar, aCons, aNil, eVar, eC, R.bnd, R.o, rd, fzAll, fz, q_check_ring F, q_check_element F hx, e1, e2, sNil, O.f]
/-! ### orders -/
/-- how often x goes on until one -/
def FD.ordL (f : FD) (x : Nat) : Nat → Nat → Nat → Option Nat
  | 0, _, _ => none
  | n + 1, h, c => match Nat.beq h 1 with
    | true => some c
    | false => f.ordL x n (f.t h x) (c + 1)
def FD.ord (f : FD) (x : Nat) : Option Nat := f.ordL x 100 x 1
theorem ord_loop {f : FD} (F : FOk f) {x : Nat} (hx : x < f.q) : ∀ (n h c r : Nat), h < f.q → f.ordL x n h c = some r →
    whL (bT (eOp2 gNe (eVar 3) (eC (.int 1)))) (sPar [3, 2] (aCons (eCall (Ar 3 mm_times) (aCons (eVar 0) (aCons (eVar 3) (aCons (eVar 1) (aNil))))) (aCons (eOp2 gAdd (eVar 2) (eC (.int 1))) (aNil)))) n [.va (fdD f), .va (.int x), .va (.int c), .va (.int h)] =
      .nx [.va (fdD f), .va (.int x), .va (.int r), .va (.int 1)]
  | 0, h, c, r, _, e => by cases e
  | n + 1, h, c, r, hh, e => by
    unfold FD.ordL at e
    cases q : Nat.beq h 1 with
    | true =>
      rw [q] at e
      cases e
      have : h = 1 := Nat.eq_of_beq_eq_true q
      subst this
      exact whL_stop rfl
    | false =>
      rw [q] at e
      have ne : ¬ (h : Int) = 1 := fun z => by
        have : h = 1 := by omega
        subst this
        cases q
      refine (whL_go (e := [.va (fdD f), .va (.int x), .va (.int c), .va (.int h)]) (e' := [.va (fdD f), .va (.int x), .va (.int (c + 1 : Nat)), .va (.int (f.t h x))]) ?_ ?_).trans (ord_loop F hx n (f.t h x) (c + 1) r (F.t_lt hh hx) e)
      · simp [bT, eOp2, eVar, eC, R.bnd, rd, lift2, gNe_int, ne]
      · simp [sPar, eCall, Ar, aCons, aNil, eVar, eC, eOp2, R.bnd, R.o, rd, lift2, gAdd_ok, fzAll, fz, q_times F hh hx, setAll]
theorem s_order_of {f : FD} (F : FOk f) {x r : Nat} (hx : x < f.q) (e : f.ord x = some r) : m_order_of [fdD f, .int x] = .ok (.int r) := by
  show (g_order_of [.va (fdD f), .va (.int x), .no, .no]).f = _
  unfold g_order_of
  exact seq_f [.va (fdD f), .va (.int x), .va (.int 1), .va (.int x)] rfl (seq_f _ (ord_loop F hx 100 x 1 r hx e) rfl)
/-- how often b goes on until x -/
def FD.logL (f : FD) (b x : Nat) : Nat → Nat → Nat → Option Nat
  | 0, _, _ => none
  | n + 1, h, c => match Nat.beq h x with
    | true => some c
    | false => f.logL b x n (f.t h b) (c + 1)
def FD.log (f : FD) (b x : Nat) : Option Nat := f.logL b x 100 1 0
theorem log_loop {f : FD} (F : FOk f) {b x : Nat} (hb : b < f.q) (hx : x < f.q) : ∀ (n h c r : Nat), h < f.q → f.logL b x n h c = some r →
    whL (bT (eOp2 gNe (eVar 4) (eVar 2))) (sPar [4, 3] (aCons (eCall (Ar 3 mm_times) (aCons (eVar 0) (aCons (eVar 4) (aCons (eVar 1) (aNil))))) (aCons (eOp2 gAdd (eVar 3) (eC (.int 1))) (aNil)))) n [.va (fdD f), .va (.int b), .va (.int x), .va (.int c), .va (.int h)] =
      .nx [.va (fdD f), .va (.int b), .va (.int x), .va (.int r), .va (.int x)]
  | 0, h, c, r, _, e => by cases e
  | n + 1, h, c, r, hh, e => by
    unfold FD.logL at e
    cases q : Nat.beq h x with
    | true =>
      rw [q] at e
      cases e
      have : h = x := Nat.eq_of_beq_eq_true q
      subst this
      refine whL_stop ?_
      simp [bT, eOp2, eVar, eC, R.bnd, rd, lift2, gNe_int]
    | false =>
      rw [q] at e
      have ne : ¬ (h : Int) = x := fun z => by
        have : h = x := by omega
        subst this
        have : Nat.beq h h = true := Nat.beq_refl h
        rw [this] at q
        cases q
      refine (whL_go (e := [.va (fdD f), .va (.int b), .va (.int x), .va (.int c), .va (.int h)]) (e' := [.va (fdD f), .va (.int b), .va (.int x), .va (.int (c + 1 : Nat)), .va (.int (f.t h b))]) ?_ ?_).trans (log_loop F hb hx n (f.t h b) (c + 1) r (F.t_lt hh hb) e)
      · simp [bT, eOp2, eVar, eC, R.bnd, rd, lift2, gNe_int, ne]
      · simp [sPar, eCall, Ar, aCons, aNil, eVar, eC, eOp2, R.bnd, R.o, rd, lift2, gAdd_ok, fzAll, fz, q_times F hh hb, setAll]
/-- what logarithm tells of elements -/
def FD.lg (f : FD) (b x : Nat) : Option Rf := match Nat.beq b 0 || Nat.beq x 0 with
  | true => some (.exc "IsZero")
  | false => match f.ord b with
    | none => none
    | some c => match Nat.beq (c + 1) f.q with
      | false => some (.exc "NotGenerator")
      | true => match f.log b x with
        | some r => some (.ok (.int r))
        | none => none
theorem s_logarithm {f : FD} (F : FOk f) {b x : Nat} {r : Rf} (hb : b < f.q) (hx : x < f.q) (e : f.lg b x = some r) : m_logarithm [fdD f, .int b, .int x] = r := by
  have q2 := F.q2
  have g1 : gSub (.int f.q) (.int 1) = some (.int ((f.q : Int) - 1)) := rfl
  show (g_logarithm [.va (fdD f), .va (.int b), .va (.int x), .no, .no]).f = _
  unfold g_logarithm
  have d1 : sDrop (eCall (Ar 1 mm_check_field) (aCons (eVar 0) (aNil))) [.va (fdD f), .va (.int b), .va (.int x), .no, .no] = .nx [.va (fdD f), .va (.int b), .va (.int x), .no, .no] := by
    simp [sDrop, eCall, Ar, aCons, aNil, eVar, R.bnd, R.o, fzAll, fz, q_check_field F]
  have d2 : sDrop (eCall (Ar 2 mm_check_element) (aCons (eVar 0) (aCons (eVar 1) (aNil)))) [.va (fdD f), .va (.int b), .va (.int x), .no, .no] = .nx [.va (fdD f), .va (.int b), .va (.int x), .no, .no] := by
    simp [sDrop, eCall, Ar, aCons, aNil, eVar, R.bnd, R.o, fzAll, fz, q_check_element F hb]
  have d3 : sDrop (eCall (Ar 2 mm_check_element) (aCons (eVar 0) (aCons (eVar 2) (aNil)))) [.va (fdD f), .va (.int b), .va (.int x), .no, .no] = .nx [.va (fdD f), .va (.int b), .va (.int x), .no, .no] := by
    simp [sDrop, eCall, Ar, aCons, aNil, eVar, R.bnd, R.o, fzAll, fz, q_check_element F hx]
  refine seq_f _ d1 (seq_f _ d2 (seq_f _ d3 ?_))
  unfold FD.lg at e
  cases z : Nat.beq b 0 || Nat.beq x 0 with
  | true =>
    rw [z] at e
    cases e
    have z' : b = 0 ∨ x = 0 := by
      rcases Bool.or_eq_true_iff.mp z with z | z
      · exact .inl (Nat.eq_of_beq_eq_true z)
      · exact .inr (Nat.eq_of_beq_eq_true z)
    rcases z' with rfl | rfl
    · rfl
    · by_cases hb0 : b = 0
      · subst hb0; rfl
      · have : ¬ (b : Int) = 0 := by omega
        simp [sSeq, sIf, bOr, bT, eOp2, eVar, eC, R.bnd, R.o, rd, lift2, gEq_int, this, sRaise, O.f]
  | false =>
    rw [z] at e
    have z1 : ¬ (b : Int) = 0 := fun w => by
      have : b = 0 := by omega
      subst this
      cases z
    have z2 : ¬ (x : Int) = 0 := fun w => by
      have : x = 0 := by omega
      subst this
      have : Nat.beq 0 0 = true := rfl
      rw [this, Bool.or_true] at z
      cases z
    have d4 : sIf (bOr (bT (eOp2 gEq (eVar 1) (eC (.int 0)))) (bT (eOp2 gEq (eVar 2) (eC (.int 0))))) (sRaise "IsZero") (sNil) [.va (fdD f), .va (.int b), .va (.int x), .no, .no] = .nx [.va (fdD f), .va (.int b), .va (.int x), .no, .no] := by
      have n1 : ¬ b = 0 := by omega
      have n2 : ¬ x = 0 := by omega
      simp [sIf, bOr, bT, eOp2, eVar, eC, R.bnd, R.o, rd, lift2, gEq_int, z1, z2, n1, n2, sNil]
    refine seq_f _ d4 ?_
    simp only at e
    cases z3 : f.ord b with
    | none => rw [z3] at e; cases e
    | some c =>
      rw [z3] at e
      have so := s_order_of F hb z3
      simp only at e
      cases z4 : Nat.beq (c + 1) f.q with
      | false =>
        rw [z4] at e
        cases e
        have ne : ¬ (c : Int) = (f.q : Int) - 1 := fun w => by
          have : c + 1 = f.q := by omega
          rw [this] at z4
          have : Nat.beq f.q f.q = true := Nat.beq_refl _
          rw [this] at z4
          cases z4
        simp [sSeq, sIf, bT, eOp2, eCall, Ar, aCons, aNil, eVar, eC, R.bnd, R.o, rd, lift2, fzAll, fz, so, q_size_of F, g1, gNe_int, ne, sRaise, O.f]
      | true =>
        rw [z4] at e
        have eq : (c : Int) = (f.q : Int) - 1 := by
          have := Nat.eq_of_beq_eq_true z4
          omega
        have d5 : sIf (bT (eOp2 gNe (eCall (Ar 2 m_order_of) (aCons (eVar 0) (aCons (eVar 1) (aNil)))) (eOp2 gSub (eCall (Ar 1 mm_size_of) (aCons (eVar 0) (aNil))) (eC (.int 1))))) (sRaise "NotGenerator") (sNil) [.va (fdD f), .va (.int b), .va (.int x), .no, .no] = .nx [.va (fdD f), .va (.int b), .va (.int x), .no, .no] := by
          simp [sIf, bT, eOp2, eCall, Ar, aCons, aNil, eVar, eC, R.bnd, R.o, rd, lift2, fzAll, fz, so, q_size_of F, g1, gNe_int, eq, sNil]
        simp only at e
        cases z5 : f.log b x with
        | none => rw [z5] at e; cases e
        | some r' =>
          rw [z5] at e
          cases e
          exact seq_f _ d5 (seq_f [.va (fdD f), .va (.int b), .va (.int x), .va (.int 0), .va (.int 1)] rfl (seq_f _ (log_loop F hb hx 100 1 0 r' (by omega) z5) rfl))
end Pf
namespace Pf
open PySem PySem.Spec PyProof.Rows L2
/-! ### mirrors by the tables of any known field -/
def fastR1 (g : FD → Nat → Option Rf) (ds : List D) : Option Rf := match ds with
  | [r, .int x] => (match fOf r with
    | some f => (match natB x f.q with
      | some a => g f a
      | none => none)
    | none => none)
  | _ => none
def fastR2 (g : FD → Nat → Nat → Option Rf) (ds : List D) : Option Rf := match ds with
  | [r, .int x, .int y] => (match fOf r with
    | some f => (match natB x f.q with
      | some a => (match natB y f.q with
        | some b => g f a b
        | none => none)
      | none => none)
    | none => none)
  | _ => none
theorem fastR1_ok {g : FD → Nat → Option Rf} {m : List D → Rf} (h : ∀ f x r, FOk f → x < f.q → g f x = some r → m [fdD f, .int x] = r) : mm (fastR1 g) m = m := mm_eq fun ds r e => by
  unfold fastR1 at e
  split at e
  · split at e
    · rename_i f q
      split at e
      · rename_i a qa
        obtain ⟨h1, rfl⟩ := fOf_ok q
        obtain ⟨rfl, h3⟩ := natB_ok qa
        exact h f a r (fokA h1) h3 e
      · cases e
    · cases e
  · cases e
theorem fastR2_ok {g : FD → Nat → Nat → Option Rf} {m : List D → Rf} (h : ∀ f x y r, FOk f → x < f.q → y < f.q → g f x y = some r → m [fdD f, .int x, .int y] = r) : mm (fastR2 g) m = m := mm_eq fun ds r e => by
  unfold fastR2 at e
  split at e
  · split at e
    · rename_i f q
      split at e
      · rename_i a qa
        split at e
        · rename_i b qb
          obtain ⟨h1, rfl⟩ := fOf_ok q
          obtain ⟨rfl, h3⟩ := natB_ok qa
          obtain ⟨rfl, h4⟩ := natB_ok qb
          exact h f a b r (fokA h1) h3 h4 e
        · cases e
      · cases e
    · cases e
  · cases e
def natsB (q : Nat) : List D → Option (List Nat)
  | [] => some []
  | .int i :: ds => (match natB i q with
    | some n => (match natsB q ds with
      | some l => some (n :: l)
      | none => none)
    | none => none)
  | _ => none
theorem natsB_ok {q : Nat} : ∀ {ds : List D} {l : List Nat}, natsB q ds = some l → ds = nL l ∧ ∀ c ∈ l, c < q
  | [], l, e => by cases e; exact ⟨rfl, fun c h => by cases h⟩
  | d :: ds, l, e => by
    unfold natsB at e
    split at e
    · rename_i z; cases z
    · rename_i i ds' z
      cases z
      split at e
      · rename_i n qn
        split at e
        · rename_i l' ql
          cases e
          obtain ⟨rfl, h1⟩ := natB_ok qn
          obtain ⟨rfl, h2⟩ := natsB_ok ql
          refine ⟨rfl, fun c hc => ?_⟩
          rcases List.mem_cons.mp hc with rfl | hc
          · exact h1
          · exact h2 c hc
        · cases e
      · cases e
    · cases e
/-- a tuple of elements, and an element -/
def fastV (lo hi : Nat) (g : FD → List Nat → Nat → D) (ds : List D) : Option Rf := match ds with
  | [r, .tuple cs, .int x] => (match fOf r with
    | some f => (match natB x f.q with
      | some a => (match natsB f.q cs with
        | some l => (match Nat.ble lo l.length && Nat.ble l.length hi with
          | true => some (.ok (g f l a))
          | false => none)
        | none => none)
      | none => none)
    | none => none)
  | _ => none
theorem fastV_ok {lo hi : Nat} {g : FD → List Nat → Nat → D} {m : List D → Rf} (h : ∀ f cs x, FOk f → (∀ c ∈ cs, c < f.q) → lo ≤ cs.length → cs.length ≤ hi → x < f.q → m [fdD f, .tuple (nL cs), .int x] = .ok (g f cs x)) : mm (fastV lo hi g) m = m := mm_eq fun ds r e => by
  unfold fastV at e
  split at e
  · split at e
    · rename_i f q
      split at e
      · rename_i a qa
        split at e
        · rename_i l ql
          split at e
          · rename_i z
            cases e
            obtain ⟨h1, rfl⟩ := fOf_ok q
            obtain ⟨rfl, h3⟩ := natB_ok qa
            obtain ⟨rfl, h4⟩ := natsB_ok ql
            obtain ⟨z1, z2⟩ := He.ba z
            exact h f l a (fokA h1) h4 (Nat.le_of_ble_eq_true z1) (Nat.le_of_ble_eq_true z2) h3
          · cases e
        · cases e
      · cases e
    · cases e
  · cases e
def mm_value_at := mm (fastV 0 1000000 fun f cs x => .int (f.vl x cs)) m_value_at
def mm_value := mm (fastV 1 32 fun f cs x => .int (f.vl x cs)) m_value
def mm_order_of := mm (fastR1 fun f x => (f.ord x).map fun (r : Nat) => Rf.ok (.int (r : Int))) m_order_of
def mm_logarithm := mm (fastR2 fun f b x => f.lg b x) m_logarithm
theorem me_value_at : mm_value_at = m_value_at := fastV_ok fun f cs x F h _ _ hx => s_value_at F hx h
theorem me_value : mm_value = m_value := fastV_ok fun f cs x F h h1 h2 hx => s_value F hx h h1 h2
theorem me_order_of : mm_order_of = m_order_of := fastR1_ok fun f x r F hx e => by
  obtain ⟨c, e1, rfl⟩ := Option.map_eq_some_iff.mp e
  exact s_order_of F hx e1
theorem me_logarithm : mm_logarithm = m_logarithm := fastR2_ok fun f b x r F hb hx e => s_logarithm F hb hx e
/-- the generators -/
def FD.gensL (f : FD) : Nat → Nat → List Nat
  | 0, _ => []
  | n + 1, x => match f.ord x with
    | some c => (match Nat.beq (c + 1) f.q with
      | true => x :: f.gensL n (x + 1)
      | false => f.gensL n (x + 1))
    | none => f.gensL n (x + 1)
def FD.gens (f : FD) : List Nat := f.gensL (f.q - 1) 1
end Pf
namespace Pf
open PySem PySem.Spec PyProof.Rows L2
/-! ### the other fields that a law may pick, with tables -/
def fy0 : FD := ⟨2, [1, 0, 0, 1, 0], 32,
    170575497088385866309495048520714957380600658745106817457907002006165059264402348518545436315948738620530001973479129259417330783079320045492870791336740917417997539073595942494084680840773905643691617784382371098317273694454083872621675892930455719832584944306732121183285165423555128852533212983569373117056577568929733343057842933687408275509888419647425488343521288249610725918807897046579701304831786111967063276526989227406592211057299719436372983757302820403429326028502988126376410006279407405522853577801202207594687372786198213027365204387148140661062765864264459673074305729859537647144645870189160062958988034046867374716573865863937502319256416483281625296170300896893750933358816940870331647492087404741454552867455673149932086773134799430142725372709855006342448722897153170480131549352117850663855995536423452699835794530650847753262806857017428355077585871315315441272004383272334817402981959259575098313782921269951353185522352167737523273267242098846789906539705525674484366943382142478591837223918990183667616215317137716598623241078775962304610189524861678640231767925487352334597379220834466127520495714024169515189003270275108582186286190636544094510610440139447761684051573851652295413420932037157047735307333449074344246461522860422119716979999918563664650130067227330830022449318361455307762556441587217863336006353279214088011175748800171941091061982764155864281001589277060438163360583343743759399595222976768604423651559390400002241059670511270323864474395152120538401210576760763310816518522019455356435016187904,
    195368441440474258571574316382449687484360051702740797359363311426607252969750806726891893875239604663384784652856536641446624899391150697178155212337463661744999272141010970381515687486732830064426675214488701446404079003923327137167721209507519774165522377056512525315771778654675825304946348684059658373569067908199003608136535735228734177449019021841430927659616298429043141075342516384992919991575436250936149012827980663013277740749643131176935237110726328555493877534539725470091214562117895174122397508620759805898238183321917026618475372899008060085111740172523754023542032788985329050859201120783797050216847296004271556765265424187307264576230190569020880626324283140000444337988985548816680968011397532194737108053893698433697189193916004561870719179138670413790006906123847336991815838952753065694238465171366426749554204973264542348198684413053772086898423950728133768194354440362832246333596360281234689354720093188371136776416508720034109456907967873110038451702450717175629553675798840715117629171383581019307098533278755713168598347276621089117145453173709379901319844662430136521796965145492448127215719809957815443428495027167533001231401879460941717110006359293061715017380742889093812271958597406474203620256465236437998041443485904346431621514587342611466296921997678294063843503133573299466782689761383408943008760155781145690572305055358118454129880457991787675316145387791787779140505918558473608645408270165870963301912421275423323917213718971287940485716640945105215095219613006809340941637358265946528144263200,
    1459980823972598128486511383358617792788444579872⟩
theorem oky0 : okFD fy0 = true := by kernel_rfl
def fy1 : FD := ⟨2, [1, 0, 1, 1, 1], 32,
    85334904240205446122641525777862707343876867132648376581808939923643953452877662860789717422884967025851017390739814931134728526966967660290656630260617306525177664227610886888956136958508994605380330621270038435942420997212095500038084044754337695669934235040814000204050169621098545977071978728797826179042940300729634807999523339452951059953170449819616088069439217798531984625326865479583858395902862533378735660186226406892254546009950739876248791552548372023456710756478064989167457917586679633278685390977714781064611474683692803496302400247697646776588635658682082974726384503231755892739759454139021271501973915128112043142244656656986039805961008187276839473701567635676842727140038454745411636318104038406924787905255596133507571681630703864728811324208017061495779339926801778119735547106406036958552787032263319227480668579891327800175619196462194791291065915325530293117908959891783347361382984934667365464685909674074066896105502829136337881536520192114416852646955474552055298971940699853837119000629864282986936595387752879804696640032770687647853231046157261429640175346775663926389410453999690990582075946132518893309547210550895159422015011902971609364898952595536276244036846643052655827289932115096532100395172065172499979152638145365844694311648580902728926783572492356533144045406550512042584440765709642761115310440923609089211417376671892485175327844424658984124336010981993203117378592237793238783590428556670333416260677033149409026855456005009346993131759759115686656991352041225661400024395030407446028357730304,
    195368441440474258571574316382449687484360051702740797359363311426607252969750806726891893875239604663384784652856536641446624899391150697178155212337463661744999272141010970381515687486732830064426675214488701446404079003923327137167721209507519774165522377056512525315771778654675825304946348684059658373569067908199003608136535735228734177449019021841430927659616298429043141075342516384992919991575436250936149012827980663013277740749643131176935237110726328555493877534539725470091214562117895174122397508620759805898238183321917026618475372899008060085111740172523754023542032788985329050859201120783797050216847296004271556765265424187307264576230190569020880626324283140000444337988985548816680968011397532194737108053893698433697189193916004561870719179138670413790006906123847336991815838952753065694238465171366426749554204973264542348198684413053772086898423950728133768194354440362832246333596360281234689354720093188371136776416508720034109456907967873110038451702450717175629553675798840715117629171383581019307098533278755713168598347276621089117145453173709379901319844662430136521796965145492448127215719809957815443428495027167533001231401879460941717110006359293061715017380742889093812271958597406474203620256465236437998041443485904346431621514587342611466296921997678294063843503133573299466782689761383408943008760155781145690572305055358118454129880457991787675316145387791787779140505918558473608645408270165870963301912421275423323917213718971287940485716640945105215095219613006809340941637358265946528144263200,
    1459980823972598128486511383358617792788444579872⟩
theorem oky1 : okFD fy1 = true := by kernel_rfl
def fy2 : FD := ⟨2, [1, 1, 0, 1, 1], 32,
    136517059350141429414961326428237410124194104595324204342597075615834718532698182300604839337109115311150000108856313564213226690719388958800594239710952729321585468021409233604793277066354719327581328778956242099297151029397634568199794189056262145993098545800203667772878711917841497130646299103293992652450377835334280641280454700063528790411970644159117004141105629391213583410387902335372681450507400665144885059314560845122270783659147354882424010084677525399307352549655724505206972662159095796154402957966549775973848398385446726618162747376517398022630291190355174025852805136797458945605025186861751043434812632101728048032998928969272081233957122322843516869197826890944735731975029775522188317351911751434599007725596117379623479978890868926781275604870766527301353791846656889595638888662393663875988195287386168165040937835436778864064217563167053946007576159380129196111807881683035519128613149476239036973982635082354949250763370061850708816821461415284506826827164044030458536994019614415348479382689236197572745457742637287990010750235296476925343773331709205908748250565080100047000725589070157386556104771707171677936604510282674248422215080955432063697769725244072357199922340382023471908252064059374535927034302857450729634082532175178374725856701298586383624733355672548967083339436878588966078484457499898701090274689463475275648411137737884278777053597824888203661662433566972134116863339354906648333799338735633545599402656231560780274047949303816584880210333660367067373415404377561830524097096272870946526204002304,
    195368441440474258571574316382449687484360051702740797359363311426607252969750806726891893875239604663384784652856536641446624899391150697178155212337463661744999272141010970381515687486732830064426675214488701446404079003923327137167721209507519774165522377056512525315771778654675825304946348684059658373569067908199003608136535735228734177449019021841430927659616298429043141075342516384992919991575436250936149012827980663013277740749643131176935237110726328555493877534539725470091214562117895174122397508620759805898238183321917026618475372899008060085111740172523754023542032788985329050859201120783797050216847296004271556765265424187307264576230190569020880626324283140000444337988985548816680968011397532194737108053893698433697189193916004561870719179138670413790006906123847336991815838952753065694238465171366426749554204973264542348198684413053772086898423950728133768194354440362832246333596360281234689354720093188371136776416508720034109456907967873110038451702450717175629553675798840715117629171383581019307098533278755713168598347276621089117145453173709379901319844662430136521796965145492448127215719809957815443428495027167533001231401879460941717110006359293061715017380742889093812271958597406474203620256465236437998041443485904346431621514587342611466296921997678294063843503133573299466782689761383408943008760155781145690572305055358118454129880457991787675316145387791787779140505918558473608645408270165870963301912421275423323917213718971287940485716640945105215095219613006809340941637358265946528144263200,
    1459980823972598128486511383358617792788444579872⟩
theorem oky2 : okFD fy2 = true := by kernel_rfl
def fy3 : FD := ⟨2, [1, 1, 1, 0, 1], 32,
    39875592143328390528891220441654886602588010517213695371958692077837591684833241472715101120978434267260248385530761414048971759264839869187443665208780528357131285072966984236144444891800832250572045644226582338371305615528764424041453460971787186934694560529527815664660425442526825403528941405150395323778034090405853347061166077296049147786859044723247449787022546034930261266895307505732523071168022448539964404958968766395116034534000877698696614166240631278235010689738019060639829202388505106900058476610866538641163445019758239555720064777310706360112267554708449247537278009887788921306718821483575946072294485006258376849059411160472582200267776917515217844045345705984154572961757477691410154106618827054020124964135909725186990842292802389316794451965207241961563151874660207292628190517455621900903427055704733192842326724586122651862860085534349474610174475922727719039421972437569069134905261635200121223733102298649092205460326662650984027453012526621512177424848812155725536446644859896964274388026091714116271205242555753095664532595957579487349172261819585264713519500172597171230262871651659170783669469639199448155496928453570126949202141439830668308360123252654358637713505163950047596333873136626813521064097198678040967773691597678113348503905231917385964204342802999782816311710132763630447728586025033653520869273097572269770562990567756987299525456458427965528075066187753750404145618853103553780910008256666992446242809431316241171748460381153979922236400328635864440916927314218737710103197676357507065634095104,
    195368441440474258571574316382449687484360051702740797359363311426607252969750806726891893875239604663384784652856536641446624899391150697178155212337463661744999272141010970381515687486732830064426675214488701446404079003923327137167721209507519774165522377056512525315771778654675825304946348684059658373569067908199003608136535735228734177449019021841430927659616298429043141075342516384992919991575436250936149012827980663013277740749643131176935237110726328555493877534539725470091214562117895174122397508620759805898238183321917026618475372899008060085111740172523754023542032788985329050859201120783797050216847296004271556765265424187307264576230190569020880626324283140000444337988985548816680968011397532194737108053893698433697189193916004561870719179138670413790006906123847336991815838952753065694238465171366426749554204973264542348198684413053772086898423950728133768194354440362832246333596360281234689354720093188371136776416508720034109456907967873110038451702450717175629553675798840715117629171383581019307098533278755713168598347276621089117145453173709379901319844662430136521796965145492448127215719809957815443428495027167533001231401879460941717110006359293061715017380742889093812271958597406474203620256465236437998041443485904346431621514587342611466296921997678294063843503133573299466782689761383408943008760155781145690572305055358118454129880457991787675316145387791787779140505918558473608645408270165870963301912421275423323917213718971287940485716640945105215095219613006809340941637358265946528144263200,
    1459980823972598128486511383358617792788444579872⟩
theorem oky3 : okFD fy3 = true := by kernel_rfl
def fy4 : FD := ⟨2, [1, 1, 1, 1, 0], 32,
    17162528213504869991703042491113236761437108366715732290248064227443512767894927465307188264425560587768517851227956340926344104289178994949627843395125127277661251197251555900051573660148080302508272394137657434510982065371634810228039150867344934206156869350197004357959781377505786192697505905652255974269939082641768971799386519172724923745507964421257286536950663057733665046893743291315053418006603007937495005518966159605572616752832741953047766372481986444207085283889042882278505304431236547440625081202078643927244810002285999403649755646043918928564501248114142018134334132870721225169180398955229421901072419922155888816378418416226647507599403381795680288152492077978211165159706866226936928770608594683666644387182873750489725945375765570449635113925722425249251651706716883880513852617016853523803837877813014380723709532981438349076246329366509731456544803211576420388759595191040238636583409931808308840030444969193608822790197639146421850132498311181054384641496337503991518588370512404212112337802529961898010997114988611033502290935879218026114027914813848819045826104980967139408140492511974859358865548006408369048763447822619710628407622836031355634610190838453666625478335554604759398159530571661881945830605336111200151061735914504723339864362241440720647696464662442961736451534019831997085144827651270978655300168953202041530911752631787410263385885712606806837031758214038800459002147333049111367951830151542300551572027286528946896141584088238886922108248203121566062511019981450397124084929354690908244152418304,
    195368441440474258571574316382449687484360051702740797359363311426607252969750806726891893875239604663384784652856536641446624899391150697178155212337463661744999272141010970381515687486732830064426675214488701446404079003923327137167721209507519774165522377056512525315771778654675825304946348684059658373569067908199003608136535735228734177449019021841430927659616298429043141075342516384992919991575436250936149012827980663013277740749643131176935237110726328555493877534539725470091214562117895174122397508620759805898238183321917026618475372899008060085111740172523754023542032788985329050859201120783797050216847296004271556765265424187307264576230190569020880626324283140000444337988985548816680968011397532194737108053893698433697189193916004561870719179138670413790006906123847336991815838952753065694238465171366426749554204973264542348198684413053772086898423950728133768194354440362832246333596360281234689354720093188371136776416508720034109456907967873110038451702450717175629553675798840715117629171383581019307098533278755713168598347276621089117145453173709379901319844662430136521796965145492448127215719809957815443428495027167533001231401879460941717110006359293061715017380742889093812271958597406474203620256465236437998041443485904346431621514587342611466296921997678294063843503133573299466782689761383408943008760155781145690572305055358118454129880457991787675316145387791787779140505918558473608645408270165870963301912421275423323917213718971287940485716640945105215095219613006809340941637358265946528144263200,
    1459980823972598128486511383358617792788444579872⟩
theorem oky4 : okFD fy4 = true := by kernel_rfl
def fy5 : FD := ⟨3, [2, 2], 9,
    5424713462726506281492795208410906117391996852623689322335192494570764967569352800107983000199206146975645696203272749056,
    10583773055631901445943951575797730473326710187196548611996075012024505515092803899649948157155622235601072744596833929248,
    4573309895744⟩
theorem oky5 : okFD fy5 = true := by kernel_rfl
def fy6 : FD := ⟨3, [1, 0, 2], 27,
    25536054579742013970339770432756336208256884946017699011323377611365949864431749412867621796557713860786361077789650240495517934480699506918182827108483753665951951074976076899819784839463222384242127565902318782022214014508998582485426234415409427958856643364645895437874151002702902923604928879531112001659569270280365312585624042814187225529695733461680894704842361322742771316759170149726315872808423945375405098695891398494661882938863215179571902843573225185995604797510242622325600973536836507973089327289376747995674821136052706718658507019182700244945606059962413128012799834915134077505351742008834821393695719878854888357715650147578504545693062413115648397522851721785061353354198700877942186813357521072545718493245778887608643375540509628219206297491246355364528418132132822244384124500720017581476372900921748247854633704320983491778161705015833016197074924098407371031124093919905364483575458918751113525699616854253022615787079536044020363233626955282536382184357098374513811768831907250613054827688287016100907580510744444199053794206499715871474947406765592604788612471967449088,
    75150505046255314798489685391020665237269972839199016236531863363015665923001742456229351084689902038717653518106513130657617068951229356428726003026906558492358800083830573113440275144003476052792566941892602299777882364067977349437797343320406671996792905576379887716021511817167104349238407880929698114267539042482426851509991408548239687044287684350879104229713496183531221886070170445757491667269417590182330052389652361431412526514097498441893367359840187151311886577666816048503013842125104194134019618082310076531812189072690233597194014516619233243125301861877697925561107732711607147553334350514889071336740785786945591258504409916514741656346870155555294402327657245846420144069164440426495388895400094139477523038370528629171041859228100866534512951703527148976704232518721536083035883438230600251534393140141788263715281931504014876240028758486139783903237238956894586976306404170572266036570986620563972084529839927404151829155220209832186651094278309047543203462320134402358042272281330674243114372448018502334876350344569499375583300284542602561201339169671287012408772920583751712,
    18306815260805972811530360991366254888000⟩
theorem oky6 : okFD fy6 = true := by kernel_rfl
def fy7 : FD := ⟨3, [1, 1, 2], 27,
    124937658472632852318926713620366099198218478979485636694509098397060209961388999612187067838777422383046494273964931218035632181978265545557743032022510581551401474022827045417289347346366460228160596226268504245163743587854996567712550432219038142300468354071212511812512326427086219824998588878867680904928799495404660971456027384305706954736288546293718608770091958082077502424155418148330867438716406545580805056930306383615672726541562961335450731612093209562850778165532581624394618093995404339764504553739865214368761650304286680990197796644514474096988557822259650334160401715543354944349541626455018107860997230044688294561619709385016874937611037906035684417833252884924234606944158310478312804382641096591398370941201024940185651055533504157023243891032974774275794126099066024891396384778042698435944411340054919551045169534324046114155372682416989720043034898994576624422710383376975470753810181682477723034618761480002226886044457271110827242338575695004897075362193271580882576241707664862378605418747718404678340459521292287138725225238415172993592379458379516202451356841920167936,
    75150505046255314798489685391020665237269972839199016236531863363015665923001742456229351084689902038717653518106513130657617068951229356428726003026906558492358800083830573113440275144003476052792566941892602299777882364067977349437797343320406671996792905576379887716021511817167104349238407880929698114267539042482426851509991408548239687044287684350879104229713496183531221886070170445757491667269417590182330052389652361431412526514097498441893367359840187151311886577666816048503013842125104194134019618082310076531812189072690233597194014516619233243125301861877697925561107732711607147553334350514889071336740785786945591258504409916514741656346870155555294402327657245846420144069164440426495388895400094139477523038370528629171041859228100866534512951703527148976704232518721536083035883438230600251534393140141788263715281931504014876240028758486139783903237238956894586976306404170572266036570986620563972084529839927404151829155220209832186651094278309047543203462320134402358042272281330674243114372448018502334876350344569499375583300284542602561201339169671287012408772920583751712,
    18306815260805972811530360991366254888000⟩
theorem oky7 : okFD fy7 = true := by kernel_rfl
def fy8 : FD := ⟨3, [1, 2, 1], 27,
    35558189355616854700071054628997933130961075751996150730998885974133679120294203869778328831418866010377744689439762619581093581786597524371406581552038955358797393061458938691340683966266318566823857743813778643279554563957986792892787984856435351451986196847761043075001287490310410696273344784191843629072655564574931060585929844565374451012421017092274784102205140354567082259595699305298134049915388710018321248794606296646138451869907718469074666923794341505109916688963953550977730802398105950777455600592916906299721323396158769685628103364373369144229507206375514044280916117520814701399944315625233964685410641019944234928893343965240972452319595908964204457340548051905406783617008223997218070849123765372240638727049051821698886499053133427880657275766448588346467956026342357860835479498252368974223849828407879186118435089946354913432901307011072159769696344962939291556022406013877243882689977654271861047974920291134199856552073798357862432150184055196407012126486261722044941031189234934348167978089601048369393355084971636072282361916911598433336764943607171358201444299308007424,
    75150505046255314798489685391020665237269972839199016236531863363015665923001742456229351084689902038717653518106513130657617068951229356428726003026906558492358800083830573113440275144003476052792566941892602299777882364067977349437797343320406671996792905576379887716021511817167104349238407880929698114267539042482426851509991408548239687044287684350879104229713496183531221886070170445757491667269417590182330052389652361431412526514097498441893367359840187151311886577666816048503013842125104194134019618082310076531812189072690233597194014516619233243125301861877697925561107732711607147553334350514889071336740785786945591258504409916514741656346870155555294402327657245846420144069164440426495388895400094139477523038370528629171041859228100866534512951703527148976704232518721536083035883438230600251534393140141788263715281931504014876240028758486139783903237238956894586976306404170572266036570986620563972084529839927404151829155220209832186651094278309047543203462320134402358042272281330674243114372448018502334876350344569499375583300284542602561201339169671287012408772920583751712,
    18306815260805972811530360991366254888000⟩
theorem oky8 : okFD fy8 = true := by kernel_rfl
def fy9 : FD := ⟨3, [2, 0, 1], 27,
    112874744937512133941229019851788601657133421183496334993356762284094837602944283063811086677137185550563967921918133543070204082517365661758876225736728159606284227529638589694925927020594922913887220784044667227088591400307915924636943876776359822048670606260574844709396890547415877361507147240958473839268264759913994010153930783471154224865543200767757826612665560537269263021207775590724021112639764333397336821512928303645336755352601351817103446861719923578849648761418170672138587843487834288382257872458745102058298474235570247695925263602149251698761576228871685854646515299537889440751961594332807545944615504873559188169536933695327537836996598516758114812548256638910246658197076886524770637993730182705335822777023265207944437119501375782676117514136905058644811740066778380364758827462324400980569774439159843217788347785773586957995761860289310001487962582466649979890826715025905699009582205388684034009623155453228224975471811224491676577135469754453206951489348189237478616488793078178874295908260548872319816680963718223072815604394991974870751768302599059654743116051837353984,
    75150505046255314798489685391020665237269972839199016236531863363015665923001742456229351084689902038717653518106513130657617068951229356428726003026906558492358800083830573113440275144003476052792566941892602299777882364067977349437797343320406671996792905576379887716021511817167104349238407880929698114267539042482426851509991408548239687044287684350879104229713496183531221886070170445757491667269417590182330052389652361431412526514097498441893367359840187151311886577666816048503013842125104194134019618082310076531812189072690233597194014516619233243125301861877697925561107732711607147553334350514889071336740785786945591258504409916514741656346870155555294402327657245846420144069164440426495388895400094139477523038370528629171041859228100866534512951703527148976704232518721536083035883438230600251534393140141788263715281931504014876240028758486139783903237238956894586976306404170572266036570986620563972084529839927404151829155220209832186651094278309047543203462320134402358042272281330674243114372448018502334876350344569499375583300284542602561201339169671287012408772920583751712,
    18306815260805972811530360991366254888000⟩
theorem oky9 : okFD fy9 = true := by kernel_rfl
def fy10 : FD := ⟨3, [2, 1, 1], 27,
    98600452569478451857259187332252981874120848593352189498203941629860496530253759634254708685724093855498675845459082098595250228270590666437353031815910172301126143950154107749194111059252425965005657033336426333030942456475534911056829175531169185551591738098939832628171853684220642185125056368226960034223173252329319470053482780188821166786505169695703956081065417755620509139801538496816259303842254938886759611074900177163765097670066475418662557710397386382454969303865587228232766608218772634626775795426533845669863583458880935776820262866463518726392080805804907866377174061397853146525215145746208767273718691786168954925783025041694167405052227510091730748036908726399868395851907842560738446422403055914414905478406813583940209395628563605183622164582813061328251858340716422650660391685384380207379953907099190522302926040656661250025939642695304334784511708534201648011495144113183415460184977659900034247351361065644498254121188174465837503696844479442857009671025991327075818322841035937161708123094845172834943001489133602320565558696736546712697225988394675263969805881541918720,
    75150505046255314798489685391020665237269972839199016236531863363015665923001742456229351084689902038717653518106513130657617068951229356428726003026906558492358800083830573113440275144003476052792566941892602299777882364067977349437797343320406671996792905576379887716021511817167104349238407880929698114267539042482426851509991408548239687044287684350879104229713496183531221886070170445757491667269417590182330052389652361431412526514097498441893367359840187151311886577666816048503013842125104194134019618082310076531812189072690233597194014516619233243125301861877697925561107732711607147553334350514889071336740785786945591258504409916514741656346870155555294402327657245846420144069164440426495388895400094139477523038370528629171041859228100866534512951703527148976704232518721536083035883438230600251534393140141788263715281931504014876240028758486139783903237238956894586976306404170572266036570986620563972084529839927404151829155220209832186651094278309047543203462320134402358042272281330674243114372448018502334876350344569499375583300284542602561201339169671287012408772920583751712,
    18306815260805972811530360991366254888000⟩
theorem oky10 : okFD fy10 = true := by kernel_rfl
def fy11 : FD := ⟨3, [2, 2, 0], 27,
    87556756324225259703157082918357604021512466321628752753135740537531434632424352650751282664210894151287001837010247936858408817337529058265437182819666478424527271358669456287457133412470568910241946224775804406802065505293974981901315276110967973160191254434365166793426244832813324164762579150386735892590933076921659721386819900380491022042799024616414961973096588418145365036636646804573100756844996196366231371956915264163450392274588522830330707987588270839292343892662859172434253821774627636650936836283976274781589061469278709292052561283662301364586252763923315343456258495442590842681668531015322745452946703543898585459739223508646455547126144672599122848105939178675247371939500776834709295694959457334285590173444767990740741703958626875908298386213166209933639738447589568676779179650777048106768928572646950074396118052891284174446211169564088045775149363422583567582845587042960721894369953817561668355796406269566936280574094515547165097008664221111716077414080995403791359628807616161954728733685067753993577461339574197246091826066419843963159376225487794593940034731475206144,
    75150505046255314798489685391020665237269972839199016236531863363015665923001742456229351084689902038717653518106513130657617068951229356428726003026906558492358800083830573113440275144003476052792566941892602299777882364067977349437797343320406671996792905576379887716021511817167104349238407880929698114267539042482426851509991408548239687044287684350879104229713496183531221886070170445757491667269417590182330052389652361431412526514097498441893367359840187151311886577666816048503013842125104194134019618082310076531812189072690233597194014516619233243125301861877697925561107732711607147553334350514889071336740785786945591258504409916514741656346870155555294402327657245846420144069164440426495388895400094139477523038370528629171041859228100866534512951703527148976704232518721536083035883438230600251534393140141788263715281931504014876240028758486139783903237238956894586976306404170572266036570986620563972084529839927404151829155220209832186651094278309047543203462320134402358042272281330674243114372448018502334876350344569499375583300284542602561201339169671287012408772920583751712,
    18306815260805972811530360991366254888000⟩
theorem oky11 : okFD fy11 = true := by kernel_rfl
def fy12 : FD := ⟨3, [2, 2, 2], 27,
    60197154243754148060600371272149484626523790476552867231925229470599435525201697651095743174786522770623780375345620149789418694540445197047704133938767737989771822838234167977089876803117421013892131849790454297342847146226710930142950166794631973831105177050120941527733419306547462844323539378099904158742850603045012578200483084792613774073642248626582548517320524172915305836408135711200741320288071587945287866069228161856098145157361661214493572280384158626459015799274043617724907189491741176004681829105694475994115540089161853667572167423049004095354438006348177631560737896680005678799024952147436072728796344351448100105850623678160333175512698555162530446931350307281667384011752365285116838949647970693832413904971013461569807323627852860487471551190559007335040661898275527936350132184905458798584366376588070896727216365855601252204967817284503942017586895464093956054426245248596473609730771531420495770284196498404643144669150947962302565414193645663648134823299197281291476718442025195730355726438082826711859266012958882514290480991658697439423409633680534057018069089700020224,
    75150505046255314798489685391020665237269972839199016236531863363015665923001742456229351084689902038717653518106513130657617068951229356428726003026906558492358800083830573113440275144003476052792566941892602299777882364067977349437797343320406671996792905576379887716021511817167104349238407880929698114267539042482426851509991408548239687044287684350879104229713496183531221886070170445757491667269417590182330052389652361431412526514097498441893367359840187151311886577666816048503013842125104194134019618082310076531812189072690233597194014516619233243125301861877697925561107732711607147553334350514889071336740785786945591258504409916514741656346870155555294402327657245846420144069164440426495388895400094139477523038370528629171041859228100866534512951703527148976704232518721536083035883438230600251534393140141788263715281931504014876240028758486139783903237238956894586976306404170572266036570986620563972084529839927404151829155220209832186651094278309047543203462320134402358042272281330674243114372448018502334876350344569499375583300284542602561201339169671287012408772920583751712,
    18306815260805972811530360991366254888000⟩
theorem oky12 : okFD fy12 = true := by kernel_rfl
def fy13 : FD := ⟨5, [1, 1], 25,
    8766716081041413082917728345467881312246879684513733396048905029540163312705410033455037825340994178961814587666981989761149800764005070969478969027243464643974998260571667377918073136512007581155487840480711572393009977934802031498692299425331663570134124524762331362579833439879154938287825241848105481533402143049381776704816540450570856641806267474598547344412302044857993339821402768934083404955132476139420132842459236337238406114414920286328291660327144048704932358929874810831526019331574473925130333792009667874899468047731529421122695660913252145206137076548683233675344834152834666967503667292751331776192844163650284683537531058588071590889887392725757060564631454961681959349233201314462697596925290902730399391577677467157345605602084494848055051809367658384603497466946505827273411589573362782354905867052264103475999321443125039783889562199356775156620136209758917798663197164576481178205097996428936461271202086785625620480,
    30329717773642261003921549893081998765667061660560731894026859915599413907008293492522032693955116934077870401172614306025595562382003038506799379697256899948159961899534606080836708593795150019289831096942633609709576656794191964345435355852307598485865194299825812583546867647055096137990229859453556235975272065848633458570817071502579713744727618684400389904391431298128857796680755198000469188642547949795374110751689922214362541327744078310041989315693536341794936577841858162714299985499005898394539532497081470413380888340189376369427877309568349473576353355178009559503644242594155338588067832112666954524723704121089290640491998938416847234157548470498038958178680209368320501444444136391633549235173141715767459251238215944170754582500472057088265067846826775514555432230945963457096158832313444295331297955158213416357146380480856960961639148531734145842761784180561073685353672144592648694688053162314333233083007711721828747296,
    8276893065260791840833606450215455872⟩
theorem oky13 : okFD fy13 = true := by kernel_rfl
def fy14 : FD := ⟨5, [1, 4], 25,
    25605634347501741167677409357516062236432613575761052944623656312909643941339112657779810442398189386076183912457106576649764619094914512833316896559699050451385351264400364218791811909214413340263346017940914379812982868999626357053106596647699623633532958572821476221258211071267152418592640272735338129522346205082536555637116615791638868653207336778702221033119993253521271205464759842710276212364654977597517236321718289886633428041166271723782617462192105598579669422903064527106228789077131103638610716322958303819720925045132583232374733282932075830951060972802060579662156875666647319842070283560113028868323394960339138050214843842009201357542375206259244959600602082432659394495552551717318821555037449553081042865682773794000150456097462175049685632263214329571643261434582202234625141219214840150346886086674254538065336002535295134564382556576632913271230048711484911999113824983522654254778816428730994283883535491973376901120,
    30329717773642261003921549893081998765667061660560731894026859915599413907008293492522032693955116934077870401172614306025595562382003038506799379697256899948159961899534606080836708593795150019289831096942633609709576656794191964345435355852307598485865194299825812583546867647055096137990229859453556235975272065848633458570817071502579713744727618684400389904391431298128857796680755198000469188642547949795374110751689922214362541327744078310041989315693536341794936577841858162714299985499005898394539532497081470413380888340189376369427877309568349473576353355178009559503644242594155338588067832112666954524723704121089290640491998938416847234157548470498038958178680209368320501444444136391633549235173141715767459251238215944170754582500472057088265067846826775514555432230945963457096158832313444295331297955158213416357146380480856960961639148531734145842761784180561073685353672144592648694688053162314333233083007711721828747296,
    8276893065260791840833606450215455872⟩
theorem oky14 : okFD fy14 = true := by kernel_rfl
def fy15 : FD := ⟨5, [2, 1], 25,
    15255000606526780936066877066277018516647100106272424552965598644135738102337732999075152939000554556722592236680815222140583694844470870580407366239680303004757614937350148969607087184305765347687933830312953191052146674412509522921109491512559980283775112633514474743289769739808953877372231570974555428292110657811225244511698448697625321537046506269693446513555883119033473418897903806660152608506186883085108816173605276929349911436543814429916732023650271511764729519288527258191640196444359045254810367548489631275731969527747264284638807621919613727787886255217320187325283301210476268856837176792093558907371582462201165642929520938248475699235904459467341074702847236840557988038800522001218048885498546200408945285465894037581579581020803994307969349475963672581428548722661969630210577376522024948600602045188532177314029380969134071522136141885152148511568104825216863394310394679772851056310589594764383824015751032832824180736,
    30329717773642261003921549893081998765667061660560731894026859915599413907008293492522032693955116934077870401172614306025595562382003038506799379697256899948159961899534606080836708593795150019289831096942633609709576656794191964345435355852307598485865194299825812583546867647055096137990229859453556235975272065848633458570817071502579713744727618684400389904391431298128857796680755198000469188642547949795374110751689922214362541327744078310041989315693536341794936577841858162714299985499005898394539532497081470413380888340189376369427877309568349473576353355178009559503644242594155338588067832112666954524723704121089290640491998938416847234157548470498038958178680209368320501444444136391633549235173141715767459251238215944170754582500472057088265067846826775514555432230945963457096158832313444295331297955158213416357146380480856960961639148531734145842761784180561073685353672144592648694688053162314333233083007711721828747296,
    8276893065260791840833606450215455872⟩
theorem oky15 : okFD fy15 = true := by kernel_rfl
def fy16 : FD := ⟨5, [2, 4], 25,
    32093918872987109020826558078325199440832833997519744101540349927505218730971435623399925556057749763836961561470939809029198513175380312444245293772135888812167967941178845810480825957008171106795792007773155998472119565477333848475523788734927940347173946681573619601968147371196951357677046601861788076281054719844380023443998524038693333548447575573797120202263574327696751284541260880436345415915709384543205919652864330478744933363295165867371057825515233061639466583261716974466342966189915674968290750079438267220553426525148318095890845243938437413532810151470697533312095342724288921731403793059455255999502133258890019009606833721669605465888392273000828973738817864311535423185119872404074172843610704850759588759570990364424384431516181674509599929929810343768468312690297666037562307006163502316592582264810522611903366062061304166302629136262428286626178017326942857594761022498719024132884308027066441646628084438020575461376,
    30329717773642261003921549893081998765667061660560731894026859915599413907008293492522032693955116934077870401172614306025595562382003038506799379697256899948159961899534606080836708593795150019289831096942633609709576656794191964345435355852307598485865194299825812583546867647055096137990229859453556235975272065848633458570817071502579713744727618684400389904391431298128857796680755198000469188642547949795374110751689922214362541327744078310041989315693536341794936577841858162714299985499005898394539532497081470413380888340189376369427877309568349473576353355178009559503644242594155338588067832112666954524723704121089290640491998938416847234157548470498038958178680209368320501444444136391633549235173141715767459251238215944170754582500472057088265067846826775514555432230945963457096158832313444295331297955158213416357146380480856960961639148531734145842761784180561073685353672144592648694688053162314333233083007711721828747296,
    8276893065260791840833606450215455872⟩
theorem oky16 : okFD fy16 = true := by kernel_rfl
def fy17 : FD := ⟨5, [3, 2], 25,
    5382495724742905888005212839285845007490986655937792761602493213936730423825627205689098709063370246025686575411370255731004145808929509034571691757775006319858841158493247319698960501642228339835978439099494228362718186501148235217829045306676295405912043959203045035689454863846180863133647416323816276064646383548718681750043952139916443312067805889535173971073338158924910614169710352145621520539893474919036854768023643212351634094981856435804583962478739738401796919749847486659307925783508750440659100577339457260944032352179877129511144944393346339450095167228363573975285754671538081603555212617623921768087042616676682994111848808611346253120637974100085411340499837515762481764909339255547171262305169147835381160689021166992265971780368394136272392166808442368198075439297727564622908817610597470506477435727136679303251462442291663856669526420262221507848521154842452409472837984719929250437452703245520821191870197673096118272,
    30329717773642261003921549893081998765667061660560731894026859915599413907008293492522032693955116934077870401172614306025595562382003038506799379697256899948159961899534606080836708593795150019289831096942633609709576656794191964345435355852307598485865194299825812583546867647055096137990229859453556235975272065848633458570817071502579713744727618684400389904391431298128857796680755198000469188642547949795374110751689922214362541327744078310041989315693536341794936577841858162714299985499005898394539532497081470413380888340189376369427877309568349473576353355178009559503644242594155338588067832112666954524723704121089290640491998938416847234157548470498038958178680209368320501444444136391633549235173141715767459251238215944170754582500472057088265067846826775514555432230945963457096158832313444295331297955158213416357146380480856960961639148531734145842761784180561073685353672144592648694688053162314333233083007711721828747296,
    8276893065260791840833606450215455872⟩
theorem oky17 : okFD fy17 = true := by kernel_rfl
def fy18 : FD := ⟨5, [3, 3], 25,
    37823918352169745153750956443331531029491151088854700960770689298155093286475503385088651967065098563645598912687129896640222059270913901546889845292862462603127782564662872431603384566001108556663994788427417385504384276757838861035578930158004729304458545849543869203442368822471142337684628630179085819216993218087366735958754299344942137745534688447239501256211318138948008142941836090378288626711218801791167006530476207551302936182834108249293393653786232312290017344917068154811882023636742549596597749819685903612859376466204472894536686554990600995071318860859210178709568130164643681807756556912673138067715629985924429756524714886628387367259602049575287163453989830652607849159988675101963206649508175447159147123596459015780695808967217257219786705464727332829845968626340167878360054327020094009735297148513696070405152348801256312312729027152982960775913338971101858651639897811296338742845596941039606727483029249415553482752,
    30329717773642261003921549893081998765667061660560731894026859915599413907008293492522032693955116934077870401172614306025595562382003038506799379697256899948159961899534606080836708593795150019289831096942633609709576656794191964345435355852307598485865194299825812583546867647055096137990229859453556235975272065848633458570817071502579713744727618684400389904391431298128857796680755198000469188642547949795374110751689922214362541327744078310041989315693536341794936577841858162714299985499005898394539532497081470413380888340189376369427877309568349473576353355178009559503644242594155338588067832112666954524723704121089290640491998938416847234157548470498038958178680209368320501444444136391633549235173141715767459251238215944170754582500472057088265067846826775514555432230945963457096158832313444295331297955158213416357146380480856960961639148531734145842761784180561073685353672144592648694688053162314333233083007711721828747296,
    8276893065260791840833606450215455872⟩
theorem oky18 : okFD fy18 = true := by kernel_rfl
def fy19 : FD := ⟨5, [4, 2], 25,
    3702471594119507146127637676156176482209477085673074309094161582522101410253802724907204318950885440256435392507058499451905679534064573036076301135269641123671827033039327307758428660752016166220100876641483050311689764898241587340303664964289493248307769741064009549075654199708609655713570834556310886710973076480453666114297675893494377577045062477241516389600663334344452213516575054933666517673701671158080743116288728714263847400905238705738830769727939652406584866544267961298406749143823552121149820806202995497317348275171980817620512094393074165582354052395726468251671300958535643793938774730171374240408595972960178018745813045854619363903647137774714999469778397508217937552421350421558648805185592921828717068463574953401893802576569682509246719310257778244737880476840804350150356274035879809290269494681265836658504311712089402003128464377711924895587486534258883625964644489133178632655173393640647432814946140432638148608,
    30329717773642261003921549893081998765667061660560731894026859915599413907008293492522032693955116934077870401172614306025595562382003038506799379697256899948159961899534606080836708593795150019289831096942633609709576656794191964345435355852307598485865194299825812583546867647055096137990229859453556235975272065848633458570817071502579713744727618684400389904391431298128857796680755198000469188642547949795374110751689922214362541327744078310041989315693536341794936577841858162714299985499005898394539532497081470413380888340189376369427877309568349473576353355178009559503644242594155338588067832112666954524723704121089290640491998938416847234157548470498038958178680209368320501444444136391633549235173141715767459251238215944170754582500472057088265067846826775514555432230945963457096158832313444295331297955158213416357146380480856960961639148531734145842761784180561073685353672144592648694688053162314333233083007711721828747296,
    8276893065260791840833606450215455872⟩
theorem oky19 : okFD fy19 = true := by kernel_rfl
def fy20 : FD := ⟨5, [4, 3], 25,
    36143894221546346411873381280201862504209641518589982508262357666740464272903678904306757576952613757876347729782818140361123592996048965548394454670357097406940768439208952419662852725110896383048117225969406207453355855154932213158053549815617927146854271631404833716828568158333571130264552048411580429863319911019101720323008023098520072010511945034945843674738643314367549742288700793166333623845026998030210894878741293053215149488757490519227640461035432226294805291711488629450980846997057351277088470048549441849232692389196576582646053704990328821203577746026573072985953676451641243998140119025220590540037183342207924781158679123871660478042611213249916751583268390645063304947500686267974684192388599221152483031371012802190323639763418545592761032608176668706385773663883244663887501783445376348519089207467825227760405198071054050459187965110432664163652304350518289868131704315709588125063317631434733339106105192175095513088,
    30329717773642261003921549893081998765667061660560731894026859915599413907008293492522032693955116934077870401172614306025595562382003038506799379697256899948159961899534606080836708593795150019289831096942633609709576656794191964345435355852307598485865194299825812583546867647055096137990229859453556235975272065848633458570817071502579713744727618684400389904391431298128857796680755198000469188642547949795374110751689922214362541327744078310041989315693536341794936577841858162714299985499005898394539532497081470413380888340189376369427877309568349473576353355178009559503644242594155338588067832112666954524723704121089290640491998938416847234157548470498038958178680209368320501444444136391633549235173141715767459251238215944170754582500472057088265067846826775514555432230945963457096158832313444295331297955158213416357146380480856960961639148531734145842761784180561073685353672144592648694688053162314333233083007711721828747296,
    8276893065260791840833606450215455872⟩
theorem oky20 : okFD fy20 = true := by kernel_rfl
def fdy : List FD := [fy0, fy1, fy2, fy3, fy4, fy5, fy6, fy7, fy8, fy9, fy10, fy11, fy12, fy13, fy14, fy15, fy16, fy17, fy18, fy19, fy20]
theorem fok_of {f : FD} (h : okFD f = true) : FOk f := by
  obtain ⟨h1, h⟩ := He.ba h
  obtain ⟨h2, h⟩ := He.ba h
  obtain ⟨h3, h4⟩ := He.ba h
  have rv := okR_ok h1
  refine ⟨rv, eqI_ok h2, isNo_ok h3, fun x y hx hy => ?_, fun x y hx hy => ?_, fun x hx => ?_⟩
  · have := (He.ba (allB_ok (He.ba (allB_ok h4 x hx)).2 y hy)).1
    rw [← tmF_ok rv.n1]
    exact eqI_ok this
  · exact eqI_ok (He.ba (allB_ok (He.ba (allB_ok h4 x hx)).2 y hy)).2
  · exact eqI_ok (He.ba (allB_ok h4 x hx)).1
theorem fokY {f : FD} (h : f ∈ fdy) : FOk f := by
  unfold fdy at h
  simp only [List.mem_cons, List.not_mem_nil, or_false] at h
  rcases h with rfl | rfl | rfl | rfl | rfl | rfl | rfl | rfl | rfl | rfl | rfl | rfl | rfl | rfl | rfl | rfl | rfl | rfl | rfl | rfl | rfl
  · exact fok_of oky0
  · exact fok_of oky1
  · exact fok_of oky2
  · exact fok_of oky3
  · exact fok_of oky4
  · exact fok_of oky5
  · exact fok_of oky6
  · exact fok_of oky7
  · exact fok_of oky8
  · exact fok_of oky9
  · exact fok_of oky10
  · exact fok_of oky11
  · exact fok_of oky12
  · exact fok_of oky13
  · exact fok_of oky14
  · exact fok_of oky15
  · exact fok_of oky16
  · exact fok_of oky17
  · exact fok_of oky18
  · exact fok_of oky19
  · exact fok_of oky20
def fOfY (d : D) : Option FD := match d with
  | .tuple [.int p, .tuple ds] => fdy.find? fun f => decide (p = f.p) && eqL ds f.lol
  | _ => none
theorem fOfY_ok {d : D} {f : FD} (h : fOfY d = some f) : f ∈ fdy ∧ d = fdD f := by
  unfold fOfY at h
  split at h
  · rename_i p ds
    have h1 := List.find?_some h
    obtain ⟨h2, h3⟩ := He.ba h1
    refine ⟨List.mem_of_find?_eq_some h, ?_⟩
    rw [of_decide_eq_true h2, eqL_ok h3]
    rfl
  · cases h
def fastY0 (g : FD → D) (ds : List D) : Option Rf := match ds with
  | [r] => (match fOfY r with
    | some f => some (.ok (g f))
    | none => none)
  | _ => none
def fastY1 (g : FD → Nat → D) (ds : List D) : Option Rf := match ds with
  | [r, .int x] => (match fOfY r with
    | some f => (match natB x f.q with
      | some a => some (.ok (g f a))
      | none => none)
    | none => none)
  | _ => none
def fastY2 (g : FD → Nat → Nat → D) (ds : List D) : Option Rf := match ds with
  | [r, .int x, .int y] => (match fOfY r with
    | some f => (match natB x f.q with
      | some a => (match natB y f.q with
        | some b => some (.ok (g f a b))
        | none => none)
      | none => none)
    | none => none)
  | _ => none
/-- an exponent beside an element -/
def fastYE (n : Nat) (g : FD → Nat → Nat → D) (ds : List D) : Option Rf := match ds with
  | [r, .int x, .int y] => (match fOfY r with
    | some f => (match natB x f.q with
      | some a => (match natB y n with
        | some b => some (.ok (g f a b))
        | none => none)
      | none => none)
    | none => none)
  | _ => none
theorem fastY0_ok {g : FD → D} {m : List D → Rf} (h : ∀ f, FOk f → m [fdD f] = .ok (g f)) : mm (fastY0 g) m = m := mm_eq fun ds r e => by
  unfold fastY0 at e
  split at e
  · split at e
    · rename_i f q
      cases e
      obtain ⟨h1, rfl⟩ := fOfY_ok q
      exact h f (fokY h1)
    · cases e
  · cases e
theorem fastY1_ok {g : FD → Nat → D} {m : List D → Rf} (h : ∀ f x, FOk f → x < f.q → m [fdD f, .int x] = .ok (g f x)) : mm (fastY1 g) m = m := mm_eq fun ds r e => by
  unfold fastY1 at e
  split at e
  · split at e
    · rename_i f q
      split at e
      · rename_i a qa
        cases e
        obtain ⟨h1, rfl⟩ := fOfY_ok q
        obtain ⟨rfl, h3⟩ := natB_ok qa
        exact h f a (fokY h1) h3
      · cases e
    · cases e
  · cases e
theorem fastYE_ok {n : Nat} {g : FD → Nat → Nat → D} {m : List D → Rf} (h : ∀ f x y, FOk f → x < f.q → y < n → m [fdD f, .int x, .int y] = .ok (g f x y)) : mm (fastYE n g) m = m := mm_eq fun ds r e => by
  unfold fastYE at e
  split at e
  · split at e
    · rename_i f q
      split at e
      · rename_i a qa
        split at e
        · rename_i b qb
          cases e
          obtain ⟨h1, rfl⟩ := fOfY_ok q
          obtain ⟨rfl, h3⟩ := natB_ok qa
          obtain ⟨rfl, h4⟩ := natB_ok qb
          exact h f a b (fokY h1) h3 h4
        · cases e
      · cases e
    · cases e
  · cases e
theorem fastY2_ok {g : FD → Nat → Nat → D} {m : List D → Rf} (h : ∀ f x y, FOk f → x < f.q → y < f.q → m [fdD f, .int x, .int y] = .ok (g f x y)) : mm (fastY2 g) m = m := mm_eq fun ds r e => by
  unfold fastY2 at e
  split at e
  · split at e
    · rename_i f q
      split at e
      · rename_i a qa
        split at e
        · rename_i b qb
          cases e
          obtain ⟨h1, rfl⟩ := fOfY_ok q
          obtain ⟨rfl, h3⟩ := natB_ok qa
          obtain ⟨rfl, h4⟩ := natB_ok qb
          exact h f a b (fokY h1) h3 h4
        · cases e
      · cases e
    · cases e
  · cases e
def mn_times := mm (fastY2 fun f x y => .int (f.t x y)) mm_times
def mn_plus := mm (fastY2 fun f x y => .int (f.a x y)) mm_plus
def mn_minus := mm (fastY1 fun f x => .int (f.m x)) mm_minus
def mn_raised := mm (fastYE 16384 fun f x y => .int (f.pw 14 x y 1)) mm_raised
def mn_size_of := mm (fastY0 fun f => .int f.q) mm_size_of
def mn_check_field := mm (fastY0 fun f => .none) mm_check_field
def mn_check_element := mm (fastY1 fun f x => .none) mm_check_element
theorem ne_times : mn_times = mm_times := fastY2_ok fun f x y F hx hy => q_times F hx hy
theorem ne_plus : mn_plus = mm_plus := fastY2_ok fun f x y F hx hy => q_plus F hx hy
theorem ne_minus : mn_minus = mm_minus := fastY1_ok fun f x F hx => q_minus F hx
theorem ne_raised : mn_raised = mm_raised := fastYE_ok fun f x y F hx hy => q_raised F hx hy
theorem ne_size_of : mn_size_of = mm_size_of := fastY0_ok fun f F => q_size_of F
theorem ne_check_field : mn_check_field = mm_check_field := fastY0_ok fun f F => q_check_field F
theorem ne_check_element : mn_check_element = mm_check_element := fastY1_ok fun f x F hx => q_check_element F hx
def h_order_of : En → O := sSeq (sPar [2, 3] (aCons (eC (.int 1)) (aCons (eVar 1) (aNil))))
  (sSeq (whL (bT (eOp2 gNe (eVar 3) (eC (.int 1)))) (sPar [3, 2] (aCons (eCall (Ar 3 mn_times) (aCons (eVar 0) (aCons (eVar 3) (aCons (eVar 1) (aNil))))) (aCons (eOp2 gAdd (eVar 2) (eC (.int 1))) (aNil)))) 100)
  (sRet (eVar 2)))
def n_order_of : List D → Rf := runF 4 h_order_of
theorem nm_order_of : n_order_of = m_order_of := by unfold n_order_of m_order_of h_order_of g_order_of; rw [ne_times]
def h_generators : En → O := sSeq (sDrop (eCall (Ar 1 mn_check_field) (aCons (eVar 0) (aNil))))
  (sRet (eN (nLc (lRng rng2 (aCons (eC (.int 1)) (aCons (eCall (Ar 1 mn_size_of) (aCons (eVar 0) (aNil))) (aNil)))) (gN 1) (bT (eOp2 gEq (eCall (Ar 2 n_order_of) (aCons (eVar 0) (aCons (eVar 1) (aNil)))) (eOp2 gSub (eCall (Ar 1 mn_size_of) (aCons (eVar 0) (aNil))) (eC (.int 1))))) (eVar 1) [1])))
def n_generators : List D → Rf := runF 2 h_generators
theorem nm_generators : n_generators = m_generators := by unfold n_generators m_generators h_generators g_generators; rw [ne_check_field, ne_size_of, nm_order_of]
def h_path_of : En → O := sSeq (sOwn 2 (nLst (aCons (eVar 1) (aNil))))
  (sSeq (sFor (lSeq (eCut (eOp2 gIx (eVar 0) (eC (.int 1))) (oSome (eC (.int 1))) (oNone))) (gN 3) (sDrop (eApp 2 (eCall (Ar 3 mn_raised) (aCons (eVar 0) (aCons (eOp2 gIx (eVar 2) (eOp1 gNeg (eC (.int 1)))) (aCons (eOp2 gIx (eVar 0) (eC (.int 0))) (aNil))))))))
  (sRet (eVar 2)))
def n_path_of : List D → Rf := runF 4 h_path_of
theorem nm_path_of : n_path_of = m_path_of := by unfold n_path_of m_path_of h_path_of g_path_of; rw [ne_raised]
def h_check_both : En → O := sSeq (sDrop (eCall (Ar 1 mn_check_field) (aCons (eVar 0) (aNil))))
  (sDrop (eCall (Ar 2 mn_check_element) (aCons (eVar 0) (aCons (eVar 1) (aNil)))))
def n_check_both : List D → Rf := runF 2 h_check_both
theorem nm_check_both : n_check_both = m_check_both := by unfold n_check_both m_check_both h_check_both g_check_both; rw [ne_check_element, ne_check_field]
def h_conjugates : En → O := sSeq (sDrop (eCall (Ar 2 n_check_both) (aCons (eVar 0) (aCons (eVar 1) (aNil)))))
  (sRet (eN (nSortSet (eCall (Ar 2 n_path_of) (aCons (eVar 0) (aCons (eVar 1) (aNil)))))))
def n_conjugates : List D → Rf := runF 2 h_conjugates
theorem nm_conjugates : n_conjugates = m_conjugates := by unfold n_conjugates m_conjugates h_conjugates g_conjugates; rw [nm_check_both, nm_path_of]
def h_least_polynomial : En → O := sSeq (sDrop (eCall (Ar 2 n_check_both) (aCons (eVar 0) (aCons (eVar 1) (aNil)))))
  (sSeq (sSet 2 (eN (nLst (aCons (eC (.int 1)) (aNil)))))
  (sSeq (sFor (lSeq (eN (nSortSet (eCall (Ar 2 n_path_of) (aCons (eVar 0) (aCons (eVar 1) (aNil))))))) (gN 3) (sSeq (sOwn 4 (nOp2 nCat (eN (nLst (aCons (eC (.int 0)) (aNil)))) (eVar 2)))
  (sSeq (sFor (lEnum (aCons (eVar 2) (aNil))) (gT [5, 6]) (sItem 4 (eVar 5) (eCall (Ar 3 mn_plus) (aCons (eVar 0) (aCons (eOp2 gIx (eVar 4) (eVar 5)) (aCons (eCall (Ar 3 mn_times) (aCons (eVar 0) (aCons (eCall (Ar 2 mn_minus) (aCons (eVar 0) (aCons (eVar 3) (aNil)))) (aCons (eVar 6) (aNil))))) (aNil)))))))
  (sSet 2 (eVar 4)))))
  (sRet (eB gTuple (aCons (eVar 2) (aNil))))))
def n_least_polynomial : List D → Rf := runF 7 h_least_polynomial
theorem nm_least_polynomial : n_least_polynomial = m_least_polynomial := by unfold n_least_polynomial m_least_polynomial h_least_polynomial g_least_polynomial; rw [ne_minus, ne_plus, ne_times, nm_check_both, nm_path_of]
end Pf
namespace Pf
open PySem PySem.Spec PyProof.Rows L2
/-! ### how the combinators run, step by step -/
section
variable {env e e1 e2 e' : En} {x y : Vd} {a b d : D} {fa fb : M Vd} {ft : M Bool} {fs : M (List Vd)} {xs : List Vd} {ds as : List D}
theorem v_set {i : Nat} {f : M Vd} (h1 : f env = .ok x e) (h2 : fz x e = .ok d e') : sSet i f env = .nx (e'.set i (.va d)) := by
  unfold sSet; rw [h1]; show R.o (fz x e) _ = _; rw [h2]; rfl
theorem v_setD {i : Nat} {f : M Vd} (h1 : f env = .ok (.dat d) e) : sSet i f env = .nx (e.set i (.va d)) := v_set h1 rfl
theorem v_ret {f : M Vd} (h1 : f env = .ok x e) (h2 : fz x e = .ok d e') : sRet f env = .rt d e' := by
  unfold sRet; rw [h1]; show R.o (fz x e) _ = _; rw [h2]; rfl
theorem v_drop {f : M Vd} (h1 : f env = .ok x e) : sDrop f env = .nx e := by unfold sDrop; rw [h1]; rfl
theorem v_own {i : Nat} {f : M (List D)} (h1 : f env = .ok ds e) : sOwn i f env = .nx (e.set i (.ow false ds)) := by unfold sOwn; rw [h1]; rfl
theorem v_ifF {g1 g2 : En → O} (h : ft env = .ok false e) : sIf ft g1 g2 env = g2 e := by unfold sIf; rw [h]; rfl
theorem v_ifT {g1 g2 : En → O} (h : ft env = .ok true e) : sIf ft g1 g2 env = g1 e := by unfold sIf; rw [h]; rfl
theorem v_bT {c : Bool} (h1 : fa env = .ok x e) (h2 : rd e x = some (.bool c)) : bT fa env = .ok c e := by
  unfold bT; rw [h1]; show (match rd e x with | some (.bool c) => R.ok c e | _ => .bad) = _; rw [h2]
theorem v_bTD {c : Bool} (h1 : fa env = .ok (.dat (.bool c)) e) : bT fa env = .ok c e := v_bT h1 rfl
theorem v_bNot {c : Bool} (h1 : ft env = .ok c e) : bNot ft env = .ok (!c) e := by unfold bNot; rw [h1]; rfl
theorem v_bOrF {fu : M Bool} {r : R Bool} (h1 : ft env = .ok false e) (h2 : fu e = r) : bOr ft fu env = r := by unfold bOr; rw [h1]; exact h2
theorem v_bOrT {fu : M Bool} (h1 : ft env = .ok true e) : bOr ft fu env = .ok true e := by unfold bOr; rw [h1]; rfl
theorem v_bAndT {fu : M Bool} {r : R Bool} (h1 : ft env = .ok true e) (h2 : fu e = r) : bAnd ft fu env = r := by unfold bAnd; rw [h1]; exact h2
theorem v_op1 {g : D → Option D} (h1 : fa env = .ok x e) (q1 : rd e x = some a) (hg : g a = some d) : eOp1 g fa env = .ok (.dat d) e := by
  unfold eOp1; rw [h1]; show lift1 g (rd e x) e = _; rw [q1]; unfold lift1; simp only; rw [hg]
theorem v_op2 {g : D → D → Option D} (h1 : fa env = .ok x e1) (h2 : fb e1 = .ok y e2) (q1 : rd e2 x = some a) (q2 : rd e2 y = some b) (hg : g a b = some d) : eOp2 g fa fb env = .ok (.dat d) e2 := by
  unfold eOp2; rw [h1]; show R.bnd (fb e1) _ = _; rw [h2]; show lift2 g (rd e2 x) (rd e2 y) e2 = _; rw [q1, q2]; unfold lift2; simp only; rw [hg]
theorem v_aNil : aNil env = .ok [] env := rfl
theorem v_aCons (h1 : fa env = .ok x e1) (h2 : fs e1 = .ok xs e2) : aCons fa fs env = .ok (x :: xs) e2 := by
  unfold aCons; rw [h1]; show R.bnd (fs e1) _ = _; rw [h2]; rfl
theorem v_call {m : List D → Rf} (h1 : fs env = .ok xs e1) (h2 : fzAll xs e1 = .ok ds e2) (h3 : m ds = .ok d) : eCall m fs env = .ok (.dat d) e2 := by
  unfold eCall; rw [h1]; show R.bnd (fzAll xs e1) _ = _; rw [h2]; show (match m ds with | .ok d => R.ok (Vd.dat d) e2 | .exc c => .exc c e2 | .bad => .bad) = _; rw [h3]
theorem v_callX {m : List D → Rf} {c : Str} (h1 : fs env = .ok xs e1) (h2 : fzAll xs e1 = .ok ds e2) (h3 : m ds = .exc c) : eCall m fs env = .exc c e2 := by
  unfold eCall; rw [h1]; show R.bnd (fzAll xs e1) _ = _; rw [h2]; show (match m ds with | .ok d => R.ok (Vd.dat d) e2 | .exc c => .exc c e2 | .bad => .bad) = _; rw [h3]
theorem v_fzC {x : Vd} {d : D} (h1 : fz x env = .ok d e1) (h2 : fzAll xs e1 = .ok ds e2) : fzAll (x :: xs) env = .ok (d :: ds) e2 := by
  unfold fzAll; rw [h1]; show R.bnd (fzAll xs e1) _ = _; rw [h2]; rfl
theorem v_eB {g : List D → Option D} (h1 : fs env = .ok xs e) (h2 : rdAll e xs = some as) (h3 : g as = some d) : eB g fs env = .ok (.dat d) e := by
  unfold eB; rw [h1]; show (match rdAll e xs with | some as => (match g as with | some d => R.ok (Vd.dat d) e | none => .bad) | none => .bad) = _; rw [h2]; simp only; rw [h3]
theorem v_eN {f : M (List D)} (h : f env = .ok ds e) : eN f env = .ok (.dat (.list ds)) e := by unfold eN; rw [h]; rfl
theorem v_nLc {fi : M (List D)} {h : D → En → Option En} {tt : M Bool} {te : M Vd} {vs : List Nat} {ys : List D} (h1 : fi env = .ok ds e) (hz : szL ds.length = true) (hp : plainAt e vs = true) (h2 : lcL h tt te vs ds (wipeE e vs) = .ok ys e') : nLc fi h tt te vs env = .ok ys (backE e e' vs) := by
  unfold nLc; rw [h1]; show (if (szL ds.length && plainAt e vs) = true then (lcL h tt te vs ds (wipeE e vs)).bnd fun ys e' => R.ok ys (backE e e' vs) else .bad) = _; rw [hz, hp, h2]; rfl
theorem v_lRng {rg : List Int → Option (List D)} {is : List Int} (h1 : fs env = .ok xs e) (h2 : rdI e xs = some is) (h3 : rg is = some ds) : lRng rg fs env = .ok ds e := by
  unfold lRng; rw [h1]; show (match rdI e xs with | some is => _ | none => _) = _; rw [h2]; simp only; rw [h3]
theorem v_lSeq {f : M Vd} (h1 : f env = .ok x e) (h2 : fz x e = .ok d e') (h3 : itemsOf d = some ds) : lSeq f env = .ok ds e' := by
  unfold lSeq; rw [h1]; show R.bnd (fz x e) _ = _; rw [h2]; show (match itemsOf d with | some ds => R.ok ds e' | none => .bad) = _; rw [h3]
theorem v_cut {fl fh : M (Option Int)} {lo hi : Option Int} {e3 : En} (h1 : fa env = .ok x e1) (h2 : fl e1 = .ok lo e2) (h3 : fh e2 = .ok hi e3) (h4 : rd e3 x = some a) (h5 : gCut lo hi a = some d) : eCut fa fl fh env = .ok (.dat d) e3 := by
  unfold eCut; rw [h1]; show R.bnd (fl e1) _ = _; rw [h2]; show R.bnd (fh e2) _ = _; rw [h3]; show lift1 (gCut lo hi) (rd e3 x) e3 = _; rw [h4]; unfold lift1; simp only; rw [h5]
theorem v_eIfT {ft : M Bool} {r : R Vd} (h1 : ft env = .ok true e) (h2 : fa e = r) : eIf ft fa fb env = r := by unfold eIf; rw [h1]; exact h2
theorem v_eIfF {ft : M Bool} {r : R Vd} (h1 : ft env = .ok false e) (h2 : fb e = r) : eIf ft fa fb env = r := by unfold eIf; rw [h1]; exact h2
theorem v_tup (h1 : fs env = .ok xs e1) (h2 : fzAll xs e1 = .ok ds e2) (h3 : szL ds.length = true) : eTup fs env = .ok (.dat (.tuple ds)) e2 := by
  unfold eTup; rw [h1]; show R.bnd (fzAll xs e1) _ = _; rw [h2]; show (if szL ds.length = true then R.ok (Vd.dat (.tuple ds)) e2 else .bad) = _; rw [h3]; rfl
theorem v_nLst (h1 : fs env = .ok xs e1) (h2 : fzAll xs e1 = .ok ds e2) (h3 : szL ds.length = true) : nLst fs env = .ok ds e2 := by
  unfold nLst; rw [h1]; show R.bnd (fzAll xs e1) _ = _; rw [h2]; show (if szL ds.length = true then R.ok ds e2 else .bad) = _; rw [h3]; rfl
theorem v_seq {g1 g2 : En → O} (h : g1 env = .nx e) : sSeq g1 g2 env = g2 e := by unfold sSeq; rw [h]
theorem v_seqR {g1 g2 : En → O} (h : g1 env = .rt d e) : sSeq g1 g2 env = .rt d e := by unfold sSeq; rw [h]
theorem v_seqX {g1 g2 : En → O} {c : Str} (h : g1 env = .ex c e) : sSeq g1 g2 env = .ex c e := by unfold sSeq; rw [h]
theorem v_draw {m : List Int → List D → List D → RfD} {i j : Nat} {ns : List Int} {b : Bool} {ts ts' : List D} (h1 : fs env = .ok (.sl i :: .sl j :: xs) e1) (h2 : e1[i]? = some (.sc ns)) (h3 : fzAll xs e1 = .ok ds e2) (h4 : e2[j]? = some (.ow b ts)) (h5 : m ns ts ds = .ok d ts') :
    eDraw m fs env = .ok (.dat d) (e2.set j (.ow b ts')) := by
  unfold eDraw
  rw [h1]
  show (match e1[i]? with
    | some (.sc ns) => (fzAll xs e1).bnd fun ds e => (match e[j]? with
      | some (.ow b ts) => (match m ns ts ds with
        | .ok d ts' => R.ok (Vd.dat d) (e.set j (.ow b ts'))
        | .bad => .bad)
      | _ => .bad)
    | _ => .bad) = _
  rw [h2]
  simp only
  rw [h3]
  show (match e2[j]? with
      | some (.ow b ts) => (match m ns ts ds with
        | .ok d ts' => R.ok (Vd.dat d) (e2.set j (.ow b ts'))
        | .bad => .bad)
      | _ => .bad) = _
  rw [h4]
  simp only
  rw [h5]
theorem v_oS {f : M Vd} {n : Int} (h1 : f env = .ok (.dat (.int n)) e) : oSome f env = .ok (some n) e := by unfold oSome; rw [h1]; rfl
end
end Pf
namespace Pf
open PySem PySem.Spec PyProof.Rows L2
/-! ### lists of numbers -/
theorem nL_cons' (c : Nat) (l : List Nat) : nL (c :: l) = .int c :: nL l := rfl
theorem nL_app (a b : List Nat) : nL (a ++ b) = nL a ++ nL b := by simp [nL]
theorem canLay_nL' : ∀ l : List Nat, PyData.canLayAll0 (nL l) = true ∧ PyData.depthAll (nL l) = 0
  | [] => ⟨rfl, rfl⟩
  | c :: l => by
    obtain ⟨h1, h2⟩ := canLay_nL' l
    rw [nL_cons']
    simp [PyData.canLayAll0, PyData.canLay0, PyData.depthAll, PyData.depth, h1, h2]
theorem canLay_iL' : ∀ l : List Int, PyData.canLayAll0 (iL l) = true ∧ PyData.depthAll (iL l) = 0
  | [] => ⟨rfl, rfl⟩
  | c :: l => by
    obtain ⟨h1, h2⟩ := canLay_iL' l
    show PyData.canLayAll0 (.int c :: iL l) = true ∧ PyData.depthAll (.int c :: iL l) = 0
    simp [PyData.canLayAll0, PyData.canLay0, PyData.depthAll, PyData.depth, h1, h2]
theorem shaped_nL' (l : List Nat) : SeqAt.shaped (.list (nL l)) = true := by
  obtain ⟨h1, h2⟩ := canLay_nL' l
  unfold SeqAt.shaped
  simp [PyData.canLay0, PyData.depth, h1, h2]
theorem shaped_fd (f : FD) : SeqAt.shaped (fdD f) = true := by
  obtain ⟨h1, h2⟩ := canLay_iL' f.lol
  show SeqAt.shaped (.tuple [.int f.p, .tuple (iL f.lol)]) = true
  unfold SeqAt.shaped
  simp [PyData.canLay0, PyData.canLayAll0, PyData.depth, PyData.depthAll, h1, h2]
theorem gNe_self' {d : D} (h : SeqAt.shaped d = true) : gNe d d = some (.bool false) := by
  unfold gNe
  rw [h, SeqAt.eqv_refl d (SeqAt.canLay_of_shaped h)]
  rfl
theorem gEq_self' {d : D} (h : SeqAt.shaped d = true) : gEq d d = some (.bool true) := by
  unfold gEq
  rw [h, SeqAt.eqv_refl d (SeqAt.canLay_of_shaped h)]
  rfl
theorem eqvAll_nL : ∀ s t : List Nat, PyData.eqvAll (nL s) (nL t) = decide (s = t)
  | [], [] => rfl
  | [], b :: t => by simp [nL, PyData.eqvAll]
  | a :: s, [] => by simp [nL, PyData.eqvAll]
  | a :: s, b :: t => by
    rw [nL_cons', nL_cons']
    show (PyData.eqv (.int a) (.int b) && PyData.eqvAll (nL s) (nL t)) = _
    rw [eqvAll_nL s t]
    show (((a : Int) == (b : Int)) && _) = _
    by_cases h : a = b
    · subst h; simp
    · have : ((a : Int) == (b : Int)) = false := by simp; omega
      rw [this]; simp [h]
theorem gEq_nL (s t : List Nat) : gEq (.list (nL s)) (.list (nL t)) = some (.bool (decide (s = t))) := by
  unfold gEq
  rw [shaped_nL', shaped_nL']
  show some (PyData.bool (PyData.eqvAll (nL s) (nL t))) = _
  rw [eqvAll_nL]
theorem gNe_nL (s t : List Nat) : gNe (.list (nL s)) (.list (nL t)) = some (.bool (!decide (s = t))) := by
  unfold gNe
  rw [shaped_nL', shaped_nL']
  show some (PyData.bool (!PyData.eqvAll (nL s) (nL t))) = _
  rw [eqvAll_nL]
def la (l : List Nat) : Nat := l.getLastD 0
theorem la_app (l : List Nat) (z : Nat) : la (l ++ [z]) = z := by simp [la]
theorem la_mem {l : List Nat} (h : l ≠ []) : la l ∈ l := by
  unfold la
  rw [List.getLastD_eq_getLast?]
  rw [List.getLast?_eq_some_getLast h]
  exact List.getLast_mem h
theorem at_last {l : List Nat} (h : l ≠ []) : atI (nL l) (-1) = some (.int (la l)) := by
  have hl : 0 < l.length := List.length_pos_iff.mpr h
  unfold atI ixN
  rw [nL_len, if_neg (by omega), if_pos (by omega)]
  show (nL l)[(-1 + (l.length : Int)).toNat]? = _
  have e : (-1 + (l.length : Int)).toNat = l.length - 1 := by omega
  rw [e]
  unfold nL la
  rw [List.getElem?_map, List.getLastD_eq_getLast?, List.getLast?_eq_getElem?]
  have : l.length - 1 < l.length := by omega
  rw [List.getElem?_eq_getElem this]
  rfl
theorem at_first {a : Nat} {l : List Nat} : atI (nL (a :: l)) 0 = some (.int a) := by
  unfold atI ixN
  rw [nL_len, if_pos (by omega), if_pos (by simp)]
  rfl
theorem kIx_last {l : List Nat} (h : l ≠ []) : gIx (.list (nL l)) (.int (-1)) = some (.int (la l)) := at_last h
theorem kCut_last (vs : List Nat) : cutD (nL vs) none (some (-1)) = nL vs.dropLast := by
  unfold cutD
  have e : HT.sIx (nL vs).length (nL vs).length (some (-1)) = vs.length - 1 := by
    rw [nL_len]
    show (if (-1 : Int) < 0 then ((-1 : Int) + (vs.length : Int)).toNat else min ((-1 : Int)).toNat vs.length) = _
    rw [if_pos (by omega)]
    omega
  rw [e]
  have : HT.sIx (nL vs).length 0 none = 0 := rfl
  rw [this]
  simp only [List.drop_zero, Nat.sub_zero]
  unfold nL
  rw [← List.map_take, List.dropLast_eq_take]
theorem cut_tail (vs : List Nat) : cutD (nL vs) (some 1) none = nL (vs.drop 1) := by
  unfold cutD
  have e : HT.sIx (nL vs).length 0 (some 1) = min 1 vs.length := by rw [nL_len]; exact HT.sIx_nat vs.length 0 1
  have e2 : HT.sIx (nL vs).length (nL vs).length none = vs.length := by rw [nL_len]; rfl
  rw [e, e2]
  unfold nL
  cases vs with
  | nil => rfl
  | cons a l =>
    simp
    exact List.take_of_length_le (by simp)
theorem dl_last {l : List Nat} (h : 2 ≤ l.length) : l.dropLast ≠ [] := fun z => by
  have := congrArg List.length z
  simp at this
  omega
/-! ### the reckoner -/
def rkO (f : FD) (tr : List Nat) (k : Int) : Ob := .ins "Reckoner" [("field", .da (fdD f)), ("trail", .li (nL tr)), ("kept", .da (.int k))]
def rk (b : Bool) (f : FD) (tr : List Nat) (k : Int) : Sl := .ob b (rkO f tr k)
theorem v_g {n : Nat} {m : En → RfE} {it iu jt ju : Option Nat} {fa : M (List Vd)} {env e e' : En} {xs : List Vd} {hs : En} {d : D} {t : Option (List D)} {u : Option Ob} (h1 : fa env = .ok xs e) (h2 : hands e it iu jt ju 0 xs = some hs) (h3 : hs.length = n) (h4 : m hs = .ok d t u) (h5 : puts e jt t ju u = some e') :
    eG n m it iu jt ju fa env = .ok (.dat d) e' := by
  unfold eG
  rw [h1]
  show gRun n m it iu jt ju xs e = _
  unfold gRun
  rw [h2]
  simp only
  rw [if_pos h3, h4]
  simp only
  rw [h5]
theorem v_gX {n : Nat} {m : En → RfE} {it iu jt ju : Option Nat} {fa : M (List Vd)} {env e e' : En} {xs : List Vd} {hs : En} {c : Str} {t : Option (List D)} {u : Option Ob} (h1 : fa env = .ok xs e) (h2 : hands e it iu jt ju 0 xs = some hs) (h3 : hs.length = n) (h4 : m hs = .exc c t u) (h5 : puts e jt t ju u = some e') :
    eG n m it iu jt ju fa env = .exc c e' := by
  unfold eG
  rw [h1]
  show gRun n m it iu jt ju xs e = _
  unfold gRun
  rw [h2]
  simp only
  rw [if_pos h3, h4]
  simp only
  rw [h5]
theorem v_mth {c m : Str} {j n : Nat} {mm : En → RfE} {fa : M (List Vd)} {env e e' : En} {xs : List Vd} {hs : En} {d : D} {t : Option (List D)} {u : Option Ob} {b : Bool} {fs : List (Str × Fv)} (h0 : env[j]? = some (.ob b (.ins c fs))) (nk : noKey m fs = true) (h1 : fa env = .ok xs e) (h2 : hands e none (some 0) none (some j) 0 (.sl j :: xs) = some hs) (h3 : hs.length = n) (h4 : mm hs = .ok d t u) (h5 : puts e none t (some j) u = some e') :
    eMth c m j n mm fa env = .ok (.dat d) e' := by
  unfold eMth
  rw [h0]
  simp only
  rw [nk, if_pos (by simp)]
  exact v_g (v_aCons (by unfold eVar; rw [h0]) h1) h2 h3 h4 h5
theorem v_mthX {c m : Str} {j n : Nat} {mm : En → RfE} {fa : M (List Vd)} {env e e' : En} {xs : List Vd} {hs : En} {c2 : Str} {t : Option (List D)} {u : Option Ob} {b : Bool} {fs : List (Str × Fv)} (h0 : env[j]? = some (.ob b (.ins c fs))) (nk : noKey m fs = true) (h1 : fa env = .ok xs e) (h2 : hands e none (some 0) none (some j) 0 (.sl j :: xs) = some hs) (h3 : hs.length = n) (h4 : mm hs = .exc c2 t u) (h5 : puts e none t (some j) u = some e') :
    eMth c m j n mm fa env = .exc c2 e' := by
  unfold eMth
  rw [h0]
  simp only
  rw [nk, if_pos (by simp)]
  exact v_gX (v_aCons (by unfold eVar; rw [h0]) h1) h2 h3 h4 h5
theorem v_spc {c : Str} {j : Nat} {mm : En → RfE} {fit : D → Bool} {env e' : En} {d : D} {t : Option (List D)} {u : Option Ob} {b : Bool} {fs : List (Str × Fv)} {hs : En} (h0 : env[j]? = some (.ob b (.ins c fs))) (h2 : hands env none (some 0) none (some j) 0 [.sl j] = some hs) (h3 : hs.length = 1) (h4 : mm hs = .ok d t u) (h5 : puts env none t (some j) u = some e') (h6 : fit d = true) :
    eSpc c j mm fit env = .ok (.dat d) e' := by
  unfold eSpc
  rw [h0]
  simp only
  rw [if_pos (by simp)]
  have : gRun 1 mm none (some 0) none (some j) [.sl j] env = .ok (.dat d) e' := by
    unfold gRun
    rw [h2]
    simp only
    rw [if_pos h3, h4]
    simp only
    rw [h5]
  rw [this]
  simp only
  rw [if_pos h6]
theorem v_make {c : Str} {n : Nat} {mm : En → RfE} {fa : M (List Vd)} {env e : En} {xs : List Vd} {hs : En} {t : Option (List D)} {o : Ob} (h1 : fa env = .ok xs e) (h2 : hands e none none none none 1 xs = some hs) (h3 : hs.length + 1 = n) (h4 : mm (.ob true (.ins c []) :: hs) = .ok .none t (some o)) : mMake c n mm fa env = .ok o e := by
  unfold mMake
  rw [h1]
  show (match hands e none none none none 1 xs with
  | some hs => if hs.length + 1 = n then (match mm (.ob true (.ins c []) :: hs) with
    | .ok .none _ (some o) => R.ok o e
    | .exc c _ _ => .exc c e
    | _ => .bad) else .bad
  | none => .bad) = _
  rw [h2]
  simp only
  rw [if_pos h3, h4]
theorem v_mk {i : Nat} {f : M Ob} {env e : En} {o : Ob} (h : f env = .ok o e) : sMk i f env = .nx (e.set i (.ob false o)) := by unfold sMk; rw [h]; rfl
theorem v_andT {env e1 : En} {fa fb : M Vd} {r : R Vd} (h1 : fa env = .ok (.dat (.bool true)) e1) (h2 : fb e1 = r) : eAnd fa fb env = r := by
  unfold eAnd
  rw [h1]
  exact h2
theorem v_try {i : Nat} {cs : List Str} {g : En → O} {env e : En} {d : D} (h : g env = .rt d e) : sTry i cs g env = .rt d e := by unfold sTry; rw [h]
theorem v_tryX {i : Nat} {cs : List Str} {g : En → O} {env e : En} {c : Str} {k : Nat} (h : g env = .ex c e) (h2 : (decide (c ∈ cs) && Nat.blt i e.length) = true) (h3 : whichI c = some k) : sTry i cs g env = .rt (.tuple [.str "raised", .int k]) e := by
  unfold sTry
  rw [h]
  simp only
  rw [if_pos h2, h3]
theorem v_retX {f : M Vd} {env e : En} {c : Str} (h : f env = .exc c e) : sRet f env = .ex c e := by unfold sRet; rw [h]; rfl
theorem v_dropX {f : M Vd} {env e : En} {c : Str} (h : f env = .exc c e) : sDrop f env = .ex c e := by unfold sDrop; rw [h]; rfl
section
variable {f : FD} (F : FOk f)
include F
theorem q_check_both {x : Nat} (hx : x < f.q) : m_check_both [fdD f, .int x] = .ok .none := by
  show (g_check_both [.va (fdD f), .va (.int x)]).f = _
  unfold g_check_both
  refine seq_f _ (v_drop (v_call (v_aCons (by rfl) (by rfl)) (by rfl) (by exact q_check_field F))) ?_
  rw [v_drop (v_call (v_aCons (by rfl) (v_aCons (by rfl) (by rfl))) (by rfl) (by exact q_check_element F hx))]
  rfl
theorem r_init {x : Nat} (hx : x < f.q) : m_Reckoner___init__ [.ob true (.ins "Reckoner" []), .va (fdD f), .va (.int x)] = .ok .none none (some (rkO f [x] 1)) := by
  show (g_Reckoner___init__ [.ob true (.ins "Reckoner" []), .va (fdD f), .va (.int x)]).g none (some 0) = _
  unfold g_Reckoner___init__
  rw [v_seq (v_drop (v_call (v_aCons (by rfl) (v_aCons (by rfl) (by rfl))) (by rfl) (by exact q_check_both F hx)))]
  kernel_rfl
end
theorem v_fldIx {i : Nat} {c x : Str} {k : Int} {e : En} {fv : Fv} {d : D} (h1 : fldD e i c x = some fv) (h2 : gIx (fvD fv) (.int k) = some d) : eFldIx i c x k e = .ok (.dat d) e := by
  unfold eFldIx
  rw [h1]
  simp only
  rw [h2]
theorem v_fldApp {i : Nat} {c x : Str} {n : Nat} {m : List D → Rf} {q : En → Option (List D)} {e : En} {b : Bool} {fs : List (Str × Fv)} {as ds : List D} {d : D} (h1 : e[i]? = some (.ob b (.ins c fs))) (h2 : q e = some as) (h3 : (oneLi fs && Nat.beq as.length n) = true) (h4 : fs.lookup x = some (.li ds)) (h5 : szL ds.length = true) (h6 : m as = .ok d) :
    eFldApp i c x n m q e = .ok (.dat .none) (e.set i (.ob b (.ins c (putFv x (.li (ds ++ [d])) fs)))) := by
  unfold eFldApp
  rw [h1, h2]
  simp only
  rw [h3, if_pos (by simp), h4]
  simp only
  rw [if_pos h5, h6]
theorem q_cons {q : En → Option D} {r : En → Option (List D)} {e : En} {d : D} {ds : List D} (h1 : q e = some d) (h2 : r e = some ds) : qCons q r e = some (d :: ds) := by unfold qCons; rw [h1, h2]
theorem r_element (f : FD) {tr : List Nat} (h : tr ≠ []) (k : Int) : m_Reckoner_element [rk true f tr k] = .ok (.int (la tr)) none (some (rkO f tr k)) := by
  show (g_Reckoner_element [rk true f tr k]).g none (some 0) = _
  unfold g_Reckoner_element
  rw [v_ret (v_fldIx (fv := .li (nL tr)) (by rfl) (by exact kIx_last h)) (by rfl)]
  rfl
theorem r_path (f : FD) (tr : List Nat) (k : Int) : m_Reckoner_path [rk true f tr k] = .ok (.list (nL tr)) none (some (rkO f tr k)) := rfl
theorem r_len (f : FD) (tr : List Nat) (k : Int) : m_Reckoner___len__ [rk true f tr k] = .ok (.int ((tr.length - 1 : Nat) : Int)) none (some (rkO f tr k)) := by
  show (g_Reckoner___len__ [rk true f tr k]).g none (some 0) = _
  have e : nFldCut 0 "Reckoner" "trail" (some 1) none [rk true f tr k] = .ok (nL (tr.drop 1)) [rk true f tr k] := by
    show R.ok (cutD (nL tr) (some 1) none) _ = _
    rw [cut_tail]
  have e2 : gLen [.list (nL (tr.drop 1))] = some (.int ((tr.length - 1 : Nat) : Int)) := by
    show some (PyData.int ((nL (tr.drop 1)).length : Nat)) = _
    rw [nL_len, List.length_drop]
  unfold g_Reckoner___len__
  rw [v_ret (v_eB (v_aCons (v_eN e) (by rfl)) (by rfl) (by exact e2)) (by rfl)]
  rfl
theorem putF_tr (f : FD) (tr tr' : List Nat) (k : Int) : putFv "trail" (.li (nL tr')) ([("field", .da (fdD f)), ("trail", .li (nL tr)), ("kept", .da (.int k))] : List (Str × Fv)) = ([("field", .da (fdD f)), ("trail", .li (nL tr')), ("kept", .da (.int k))] : List (Str × Fv)) := by kernel_rfl
theorem r_multiply {f : FD} (F : FOk f) {tr : List Nat} (h : tr ≠ []) (hl : tr.length ≤ 1000) (ht : ∀ c ∈ tr, c < f.q) {y : Nat} (hy : y < f.q) (k : Int) : m_Reckoner_multiply [rk true f tr k, .va (.int y)] = .ok (.int (f.t (la tr) y)) none (some (rkO f (tr ++ [f.t (la tr) y]) k)) := by
  show (g_Reckoner_multiply [rk true f tr k, .va (.int y)]).g none (some 0) = _
  have hL := ht _ (la_mem h)
  have e1 := q_times F hL hy
  unfold g_Reckoner_multiply
  rw [v_seq (v_drop (v_call (v_aCons (by rfl) (v_aCons (by rfl) (by rfl))) (by rfl) (by exact q_check_element F hy)))]
  rw [v_seq (v_drop (v_fldApp (as := [fdD f, .int (la tr), .int y]) (by rfl) (q_cons (by rfl) (q_cons (by exact at_last h) (q_cons (by rfl) (by rfl)))) (by rfl) (by rfl) (szL_ok (by rw [nL_len]; omega)) (by exact e1)))]
  have e2 : nL tr ++ [PyData.int (f.t (la tr) y)] = nL (tr ++ [f.t (la tr) y]) := by rw [nL_app]; rfl
  rw [e2, putF_tr]
  rw [v_ret (v_fldIx (fv := .li (nL (tr ++ [f.t (la tr) y]))) (d := .int (f.t (la tr) y)) (by rfl) (by show gIx (.list (nL (tr ++ [f.t (la tr) y]))) (.int (-1)) = _; rw [kIx_last (by simp), la_app])) (by rfl)]
  rfl
theorem undo_no (f : FD) (tr : List Nat) {k : Nat} (h : tr.length = k) : m_Reckoner_undo [rk true f tr k] = .exc "NothingToUndo" none (some (rkO f tr k)) := by
  show (g_Reckoner_undo [rk true f tr k]).g none (some 0) = _
  have e1 : eFldLen 0 "Reckoner" "trail" [rk true f tr k] = .ok (.dat (.int k)) [rk true f tr k] := by
    show R.ok (Vd.dat (.int ((nL tr).length : Nat))) _ = _
    rw [nL_len, h]
  unfold g_Reckoner_undo
  have e2 : sIf (bT (eOp2 gEq (eFldLen 0 "Reckoner" "trail") (eFld 0 "Reckoner" "kept"))) (sRaise "NothingToUndo") (sNil) [rk true f tr k] = .ex "NothingToUndo" [rk true f tr k] := v_ifT (v_bTD (v_op2 e1 (by rfl) (by rfl) (by rfl) (by exact gEq_self' rfl)))
  rw [v_seqX e2]
  rfl
theorem undo_ok (f : FD) (tr : List Nat) {k : Nat} (h : tr.length ≠ k) (h2 : 2 ≤ tr.length) : m_Reckoner_undo [rk true f tr k] = .ok (.int (la tr.dropLast)) none (some (rkO f tr.dropLast k)) := by
  show (g_Reckoner_undo [rk true f tr k]).g none (some 0) = _
  have e1 : eFldLen 0 "Reckoner" "trail" [rk true f tr k] = .ok (.dat (.int tr.length)) [rk true f tr k] := by
    show R.ok (Vd.dat (.int ((nL tr).length : Nat))) _ = _
    rw [nL_len]
  have g1 : gEq (.int tr.length) (.int k) = some (.bool false) := by
    show some (PyData.bool (((tr.length : Nat) : Int) == ((k : Nat) : Int))) = _
    have : (((tr.length : Nat) : Int) == ((k : Nat) : Int)) = false := by simp; omega
    rw [this]
  unfold g_Reckoner_undo
  have e2 : sIf (bT (eOp2 gEq (eFldLen 0 "Reckoner" "trail") (eFld 0 "Reckoner" "kept"))) (sRaise "NothingToUndo") (sNil) [rk true f tr k] = .nx [rk true f tr k] := v_ifF (v_bTD (v_op2 e1 (by rfl) (by rfl) (by rfl) (by exact g1)))
  have e3 : sFldOwn 0 "Reckoner" "trail" (nFldCut 0 "Reckoner" "trail" none (some (-1))) [rk true f tr k] = .nx [rk true f tr.dropLast k] := by
    have : nFldCut 0 "Reckoner" "trail" none (some (-1)) [rk true f tr k] = .ok (nL tr.dropLast) [rk true f tr k] := by
      show R.ok (cutD (nL tr) none (some (-1))) _ = _
      rw [kCut_last]
    unfold sFldOwn
    rw [this]
    kernel_rfl
  rw [v_seq e2, v_seq e3, v_ret (v_fldIx (fv := .li (nL tr.dropLast)) (by rfl) (by exact kIx_last (dl_last h2))) (by rfl)]
  rfl
end Pf
namespace Pf
open PySem PySem.Spec PyProof.Rows L2
/-! ### what is asked of a field, by its tables -/
def isLg (r : Option Rf) (e : Nat) : Bool := match r with
  | some (.ok (.int i)) => eqI i e
  | _ => false
theorem isLg_ok {r : Option Rf} {e : Nat} (h : isLg r e = true) : r = some (.ok (.int e)) := by
  unfold isLg at h
  split at h
  · rw [eqI_ok h]
  · cases h
def isOn (r : Rf) (e : Nat) : Bool := match r with
  | .ok (.int i) => eqI i e
  | _ => false
theorem isOn_ok {r : Rf} {e : Nat} (h : isOn r e = true) : r = .ok (.int e) := by
  unfold isOn at h
  split at h
  · rw [eqI_ok h]
  · cases h
def stepC (f : FD) (b e x : Nat) : Bool := Nat.blt 0 x && (isLg (f.lg b x) e && (Nat.beq (f.pw 14 b e 1) x && ((match f.ord x with
  | some r => Nat.beq (Nat.mul r (Nat.gcd e (f.q - 1))) (f.q - 1)
  | none => false) && Nat.beq (f.t x (f.pw 14 x (f.q - 2) 1)) 1)))
def allC (f : FD) (b : Nat) : Nat → Nat → Nat → Bool
  | 0, _, x => Nat.beq x 1
  | n + 1, e, x => stepC f b e x && allC f b n (e + 1) (f.t x b)
def pthL (f : FD) (b : Nat) : Nat → Nat → List Nat
  | 0, _ => []
  | n + 1, x => f.t x b :: pthL f b n (f.t x b)
def chkB (f : FD) (b : Nat) : Bool := allC f b (f.q - 1) 0 1 && Nat.beq (sortU ((1 :: pthL f b (f.q - 1) 1).map Int.ofNat)).length (f.q - 1)
def chkG (f : FD) : Bool := match n_generators [fdD f] with
  | .ok (.list ds) => (match natsB f.q ds with
    | some l => Nat.blt 0 l.length && l.all (chkB f)
    | none => false)
  | _ => false
def lowC (f : FD) (x : Nat) : Bool := match n_least_polynomial [fdD f, .int (Int.ofNat x)], n_conjugates [fdD f, .int (Int.ofNat x)] with
  | .ok (.tuple cs), .ok (.list ds) => (match natsB f.q cs with
    | some l => Nat.beq (f.vl x l) 0 && (Nat.beq l.length (ds.length + 1) && (Nat.ble 1 l.length && Nat.ble l.length 32))
    | none => false)
  | _, _ => false
def chkL (f : FD) : Bool := allB (f.q - 1) fun k => lowC f (k + 1)
def chkShp (f : FD) : Bool := allB (f.q - 1) fun e => isOn (m__law_shared_part [.int (Int.ofNat e), .int (Int.ofNat (f.q - 1))]) (Nat.gcd e (f.q - 1))
structure TX (f : FD) : Prop where
  tx : ∃ T U V W A : Str, m_text_of [fdD f] = .ok (.str T) ∧ gAdd (.str "(") (.str T) = some (.str U) ∧ gAdd (.str U) (.str ")") = some (.str V) ∧
    Nat.ble ((([("1" : Str), V] : List Str).map (·.length)).sum + ([("1" : Str), V] : List Str).length * (" " : Str).length) 100000 = true ∧ Txt.join " " [("1" : Str), V] = W ∧
    gAdd (.str "1 (") (.str T) = some (.str A) ∧ gAdd (.str A) (.str ")") = some (.str W) ∧ gEq (.str W) (.str W) = some (.bool true) ∧ m_parse_ring [.str T] = .ok (fdD f)
structure OK16 (f : FD) : Prop where
  F : FOk f
  q32 : f.q ≤ 32
  g : chkG f = true
  l : chkL f = true
  s : chkShp f = true
  x : TX f
end Pf
namespace Pf
open PySem PySem.Spec PyProof.Rows L2
/-! ### law 16 over a field with tables -/
theorem rngR_ok {n : Nat} (h : n ≤ 1000) : rng1 [(n : Int)] = some (rngD 0 n) := by
  show (if (small62 (n : Int) && szL ((n : Int)).toNat) = true then some (rngD 0 ((n : Int)).toNat) else none) = _
  rw [Int.toNat_natCast, szL_ok (by omega)]
  have : small62 (n : Int) = true := by unfold small62; rw [Int.natAbs_natCast]; exact Nat.blt_eq.mpr (by omega)
  rw [this]
  rfl
theorem v_forR {fi : M (List D)} {h : D → En → Option En} {b : En → O} {env e : En} {ds : List D} {o : O} (h1 : fi env = .ok ds e) (h2 : forL h b ds e = o) : sFor fi h b env = o := by unfold sFor; rw [h1]; exact h2
def body16 : En → O := sSeq (sSet 4 (eMth "Reckoner" "element" 8 1 m_Reckoner_element aNil))
  (sSeq (sIf (bOr (bT (eOp2 gNe (eCall (Ar 3 m_logarithm) (aCons (eVar 3) (aCons (eVar 7) (aCons (eVar 4) (aNil))))) (eVar 9))) (bT (eOp2 gNe (eCall (Ar 3 mm_power) (aCons (eVar 3) (aCons (eVar 7) (aCons (eVar 9) (aNil))))) (eVar 4)))) (sRet (eC (.bool false))) (sNil))
  (sSeq (sIf (bOr (bT (eOp2 gNe (eOp2 gMul (eCall (Ar 2 m_order) (aCons (eVar 3) (aCons (eVar 4) (aNil)))) (eCall (Ar 2 m__law_shared_part) (aCons (eVar 9) (aCons (eOp2 gSub (eVar 6) (eC (.int 1))) (aNil))))) (eOp2 gSub (eVar 6) (eC (.int 1))))) (bT (eOp2 gNe (eCall (Ar 3 mm_multiply) (aCons (eVar 3) (aCons (eVar 4) (aCons (eCall (Ar 2 m_inverse) (aCons (eVar 3) (aCons (eVar 4) (aNil)))) (aNil))))) (eC (.int 1))))) (sRet (eC (.bool false))) (sNil))
  (sDrop (eMth "Reckoner" "multiply" 8 2 m_Reckoner_multiply (aCons (eVar 7) (aNil))))))
def A16 (ns : List Int) (t : Nat) (f : FD) (b : Nat) (tr : List Nat) (s4 s9 s10 s11 : Sl) : En := [.sc ns, .ow false (z0 t), .va (fdD f), .va (fdD f), s4, .no, .va (.int f.q), .va (.int b), rk false f tr 1, s9, s10, s11]
section
variable {f : FD} (F : FOk f)
include F
theorem q_nonzero {x : Nat} (h0 : 0 < x) (hx : x < f.q) : m_check_nonzero [fdD f, .int x] = .ok .none := by
  have ne : ¬ x = 0 := by omega
  have ne' : ¬ (x : Int) = 0 := by omega
  show (g_check_nonzero [.va (fdD f), .va (.int x)]).f = _
  unfold g_check_nonzero
  simp [sSeq, sDrop, sIf, bT, eOp2, eCall, Ar, aCons, aNil, eVar, eC, R.bnd, R.o, rd, lift2, fzAll, fz, q_check_field F, q_check_element F hx, gEq_int, ne, ne', sNil, O.f]
theorem q_inverse {x : Nat} (h0 : 0 < x) (hx : x < f.q) (hq : f.q ≤ 32) : m_inverse [fdD f, .int x] = .ok (.int (f.pw 14 x (f.q - 2) 1)) := by
  have q2 := F.q2
  have g1 : gSub (.int f.q) (.int 2) = some (.int ((f.q - 2 : Nat) : Int)) := by
    show some (PyData.int ((f.q : Int) - 2)) = _
    congr 2
    omega
  have c1 := q_nonzero F h0 hx
  have c2 : m_inverse_of [fdD f, .int x] = .ok (.int (f.pw 14 x (f.q - 2) 1)) := by
    show (g_inverse_of [.va (fdD f), .va (.int x)]).f = _
    unfold g_inverse_of
    simp [sRet, eOp2, eCall, Ar, aCons, aNil, eVar, eC, R.bnd, R.o, rd, lift2, fzAll, fz, q_size_of F, g1, q_raised F hx (e := f.q - 2) (by omega), O.f]
  show (g_inverse [.va (fdD f), .va (.int x)]).f = _
  unfold g_inverse
  simp [sSeq, sDrop, sRet, eCall, Ar, aCons, aNil, eVar, R.bnd, R.o, fzAll, fz, c1, c2, O.f]
theorem q_order {x r : Nat} (h0 : 0 < x) (hx : x < f.q) (e : f.ord x = some r) : m_order [fdD f, .int x] = .ok (.int r) := by
  have c1 := q_nonzero F h0 hx
  have c2 := s_order_of F hx e
  show (g_order [.va (fdD f), .va (.int x)]).f = _
  unfold g_order
  simp [sSeq, sDrop, sRet, eCall, Ar, aCons, aNil, eVar, R.bnd, R.o, fzAll, fz, c1, c2, O.f]
theorem q_is_field : mm_is_field [fdD f] = .ok (.bool true) := by rw [me_is_field]; exact s_is_field F.rv F.sp
theorem q_size : mm_size [fdD f] = .ok (.int f.q) := by rw [me_size, ← F.hq]; exact s_size F.rv
theorem q_sub1 : gSub (.int f.q) (.int 1) = some (.int ((f.q - 1 : Nat) : Int)) := by
  have q2 := F.q2
  show some (PyData.int ((f.q : Int) - 1)) = _
  congr 2
  omega
end
theorem allC_pos {f : FD} {b : Nat} : ∀ {n e x : Nat}, allC f b n e x = true → 0 < x
  | 0, e, x, h => by
    have : x = 1 := Nat.eq_of_beq_eq_true h
    omega
  | n + 1, e, x, h => Nat.blt_eq.mp (He.ba (He.ba h).1).1
theorem step16 (ns : List Int) (t : Nat) {f : FD} (F : FOk f) (q32 : f.q ≤ 32) (hS : chkShp f = true) {b : Nat} (hb : b < f.q) {tr : List Nat} (hne : tr ≠ []) (hl : tr.length ≤ 1000) (ht : ∀ c ∈ tr, c < f.q) {e : Nat} (he : e < f.q - 1) (hC : stepC f b e (la tr) = true) (s4 : Sl) :
    body16 (A16 ns t f b tr s4 (.va (.int e)) .no .no) = .nx (A16 ns t f b (tr ++ [f.t (la tr) b]) (.va (.int (la tr))) (.va (.int e)) .no .no) := by
  have q2 := F.q2
  have hx := ht _ (la_mem hne)
  obtain ⟨h0, hC⟩ := He.ba hC
  obtain ⟨h1, hC⟩ := He.ba hC
  obtain ⟨h2, hC⟩ := He.ba hC
  obtain ⟨h3, h4⟩ := He.ba hC
  have h0 := Nat.blt_eq.mp h0
  have e1 := s_logarithm F hb hx (isLg_ok h1)
  have e2 := q_power F (e := e) hb (by omega)
  rw [Nat.eq_of_beq_eq_true h2] at e2
  have e5 := q_inverse F h0 hx q32
  have e6 := q_multiply F hx (F.pw_lt (e := f.q - 2) hx (by omega))
  rw [Nat.eq_of_beq_eq_true h4] at e6
  have gs := q_sub1 F
  have e4 := isOn_ok (allB_ok hS e he)
  cases ho : f.ord (la tr) with
  | none => rw [ho] at h3; cases h3
  | some r =>
    rw [ho] at h3
    have h3 : r * Nat.gcd e (f.q - 1) = f.q - 1 := Nat.eq_of_beq_eq_true h3
    have e3 := q_order F h0 hx ho
    have gm : gMul (.int r) (.int (Nat.gcd e (f.q - 1) : Nat)) = some (.int ((f.q - 1 : Nat) : Int)) := by
      have hg : Nat.gcd e (f.q - 1) ≤ f.q - 1 := Nat.gcd_le_right _ (by omega)
      rw [gMul_ok (inR_31 (by omega) (by omega)), ← Int.natCast_mul, h3]
    have n1 : ∀ i : Int, gNe (.int i) (.int i) = some (.bool false) := fun i => gNe_self' rfl
    unfold body16
    exact Eq.trans (v_seq (Eq.trans (v_setD (v_mth (by rfl) (by rfl) (by rfl) (by rfl) (by rfl) (by exact r_element f hne 1) (by rfl))) (by rfl)))
      (Eq.trans (v_seq (Eq.trans (v_ifF (v_bOrF (v_bTD (v_op2 (v_call (v_aCons (by rfl) (v_aCons (by rfl) (v_aCons (by rfl) (by rfl)))) (by rfl) (by exact e1)) (by rfl) (by rfl) (by rfl) (by exact n1 _)))
          (v_bTD (v_op2 (v_call (v_aCons (by rfl) (v_aCons (by rfl) (v_aCons (by rfl) (by rfl)))) (by rfl) (by exact e2)) (by rfl) (by rfl) (by rfl) (by exact n1 _))))) (by rfl)))
      (Eq.trans (v_seq (Eq.trans (v_ifF (v_bOrF (v_bTD (v_op2 (v_op2 (v_call (v_aCons (by rfl) (v_aCons (by rfl) (by rfl))) (by rfl) (by exact e3)) (v_call (v_aCons (by rfl) (v_aCons (v_op2 (by rfl) (by rfl) (by rfl) (by rfl) (by exact gs)) (by rfl))) (by rfl) (by exact e4)) (by rfl) (by rfl) (by exact gm)) (v_op2 (by rfl) (by rfl) (by rfl) (by rfl) (by exact gs)) (by rfl) (by rfl) (by exact n1 _)))
          (v_bTD (v_op2 (v_call (v_aCons (by rfl) (v_aCons (by rfl) (v_aCons (v_call (v_aCons (by rfl) (v_aCons (by rfl) (by rfl))) (by rfl) (by exact e5)) (by rfl)))) (by rfl) (by exact e6)) (by rfl) (by rfl) (by rfl) (by exact n1 _))))) (by rfl)))
      (v_drop (v_mth (by rfl) (by rfl) (v_aCons (by rfl) (by rfl)) (by rfl) (by rfl) (by exact r_multiply F hne hl ht hb 1) (by rfl)))))
theorem pth_app (f : FD) (b : Nat) (n : Nat) (tr : List Nat) : tr ++ pthL f b (n + 1) (la tr) = (tr ++ [f.t (la tr) b]) ++ pthL f b n (la (tr ++ [f.t (la tr) b])) := by
  rw [la_app]
  show tr ++ (f.t (la tr) b :: pthL f b n (f.t (la tr) b)) = _
  simp
theorem pth_len (f : FD) (b : Nat) : ∀ n x : Nat, (pthL f b n x).length = n
  | 0, _ => rfl
  | n + 1, x => by show (pthL f b n _).length + 1 = _; rw [pth_len f b n]
theorem loop16 (ns : List Int) (t : Nat) {f : FD} (F : FOk f) (q32 : f.q ≤ 32) (hS : chkShp f = true) {b : Nat} (hb : b < f.q) : ∀ (n e : Nat) (tr : List Nat) (s4 s9 : Sl), tr ≠ [] → tr.length = e + 1 → e + n = f.q - 1 → (∀ c ∈ tr, c < f.q) → (∀ c ∈ tr, 0 < c) → allC f b n e (la tr) = true → ∃ s4' s9',
    forL (gN 9) body16 (rngD e n) (A16 ns t f b tr s4 s9 .no .no) = .nx (A16 ns t f b (tr ++ pthL f b n (la tr)) s4' s9' .no .no) ∧ la (tr ++ pthL f b n (la tr)) = 1 ∧ (∀ c ∈ tr ++ pthL f b n (la tr), c < f.q) ∧ (∀ c ∈ tr ++ pthL f b n (la tr), 0 < c)
  | 0, e, tr, s4, s9, hne, hl, hn, ht, hp, hC => by
    have e0 : tr ++ pthL f b 0 (la tr) = tr := List.append_nil tr
    rw [e0]
    exact ⟨s4, s9, rfl, Nat.eq_of_beq_eq_true hC, ht, hp⟩
  | n + 1, e, tr, s4, s9, hne, hl, hn, ht, hp, hC => by
    have q2 := F.q2
    obtain ⟨h1, h2⟩ := He.ba hC
    have hx := ht _ (la_mem hne)
    have st := step16 ns t F q32 hS hb hne (by omega) ht (e := e) (by omega) h1 s4
    have hy := F.t_lt hx hb
    have hyp := allC_pos h2
    obtain ⟨s4', s9', i1, i2, i3, i4⟩ := loop16 ns t F q32 hS hb n (e + 1) (tr ++ [f.t (la tr) b]) (.va (.int (la tr))) (.va (.int e)) (by simp) (by simp [hl]) (by omega)
      (fun c hc => by
        rcases List.mem_append.mp hc with hc | hc
        · exact ht c hc
        · rw [List.mem_singleton.mp hc]; exact hy)
      (fun c hc => by
        rcases List.mem_append.mp hc with hc | hc
        · exact hp c hc
        · rw [List.mem_singleton.mp hc]; exact hyp) (by rw [la_app]; exact h2)
    rw [pth_app]
    refine ⟨s4', s9', ?_, i2, i3, i4⟩
    rw [← i1]
    show forL (gN 9) body16 (.int e :: rngD ((e : Int) + 1) n) _ = _
    conv => lhs; unfold forL
    show (match body16 (A16 ns t f b tr s4 (.va (.int e)) .no .no) with
      | .nx e => _
      | .ct e => _
      | .bk e => _
      | o => o) = _
    rw [st]
    rfl
/-! ### undoing -/
def undoB : En → O := sDrop (eMth "Reckoner" "undo" 8 1 m_Reckoner_undo aNil)
theorem undo_loop (ns : List Int) (t : Nat) (f : FD) (b : Nat) (s4 s9 s10 : Sl) : ∀ (n : Nat) (lo : Int) (tr : List Nat) (s11 : Sl), tr.length = n → ∃ s11',
    forL (gN 11) undoB (rngD lo n) (A16 ns t f b (1 :: tr) s4 s9 s10 s11) = .nx (A16 ns t f b [1] s4 s9 s10 s11')
  | 0, lo, tr, s11, h => by
    have : tr = [] := List.eq_nil_of_length_eq_zero h
    subst this
    exact ⟨s11, rfl⟩
  | n + 1, lo, tr, s11, h => by
    have ne : tr ≠ [] := fun z => by subst z; simp at h
    have dl : (1 :: tr).dropLast = 1 :: tr.dropLast := by
      cases tr with
      | nil => exact absurd rfl ne
      | cons a l => rfl
    have u : m_Reckoner_undo [rk true f (1 :: tr) 1] = .ok (.int (la (1 :: tr).dropLast)) none (some (rkO f (1 :: tr).dropLast 1)) := undo_ok f (1 :: tr) (k := 1) (by simp; omega) (by simp; omega)
    rw [dl] at u
    obtain ⟨s11', e⟩ := undo_loop ns t f b s4 s9 s10 n (lo + 1) tr.dropLast (.va (.int lo)) (by simp [h])
    refine ⟨s11', ?_⟩
    rw [← e]
    have st : undoB (A16 ns t f b (1 :: tr) s4 s9 s10 (.va (.int lo))) = .nx (A16 ns t f b (1 :: tr.dropLast) s4 s9 s10 (.va (.int lo))) := v_drop (v_mth (by rfl) (by rfl) (by rfl) (by rfl) (by rfl) (by exact u) (by rfl))
    show forL (gN 11) undoB (.int lo :: rngD (lo + 1) n) _ = _
    conv => lhs; unfold forL
    show (match undoB (A16 ns t f b (1 :: tr) s4 s9 s10 (.va (.int lo))) with
      | .nx e => _
      | .ct e => _
      | .bk e => _
      | o => o) = _
    rw [st]
/-! ### sets of numbers -/
theorem intsOf_nL : ∀ l : List Nat, intsOf (nL l) = some (l.map Int.ofNat)
  | [] => rfl
  | c :: l => by
    show (intsOf (nL l)).map (Int.ofNat c :: ·) = _
    rw [intsOf_nL l]
    rfl
theorem v_lenSet {fo : M Vd} {env e : En} {x : Vd} {l : List Nat} (h1 : fo env = .ok x e) (h2 : rd e x = some (.list (nL l))) (h3 : l.length < 64) : eLenSet fo env = .ok (.dat (.int (sortU (l.map Int.ofNat)).length)) e := by
  unfold eLenSet
  rw [h1]
  show (match (rd e x).bind seqOf with
    | some ds => (match intsOf ds with
      | some ns => if sz64 ns.length = true then R.ok (Vd.dat (.int (sortU ns).length)) e else .bad
      | none => .bad)
    | none => .bad) = _
  rw [h2]
  show (match intsOf (nL l) with
      | some ns => if sz64 ns.length = true then R.ok (Vd.dat (.int (sortU ns).length)) e else .bad
      | none => .bad) = _
  rw [intsOf_nL]
  simp only
  rw [if_pos (by unfold sz64; rw [Nat.blt_eq]; simpa using h3)]
/-! ### the text -/
theorem v_join {fo fe : M Vd} {env e1 e2 : En} {x y : Vd} {a : Str} {ds : List D} {ys : List Str} (h1 : fo env = .ok x e1) (h2 : rd e1 x = some (.str a)) (h3 : fe e1 = .ok y e2) (h4 : rd e2 y = some (.list ds)) (h5 : strsOf ds = some ys) (h6 : Nat.ble ((ys.map fun z : Str => z.length).sum + ys.length * a.length) 100000 = true) : eJoin fo fe env = .ok (.dat (.str (Txt.join a ys))) e2 := by
  unfold eJoin
  rw [h1]
  show (match rd e1 x with
    | some (.str a) => (fe e1).bnd fun y e2 => (match rd e2 y with
      | some (.list ds) => (match strsOf ds with
        | some ys => if Nat.ble ((ys.map fun z : Str => z.length).sum + ys.length * a.length) 100000 = true then R.ok (Vd.dat (.str (Txt.join a ys))) e2 else .bad
        | none => .bad)
      | _ => .bad)
    | _ => .bad) = _
  rw [h2]
  simp only
  rw [h3]
  show (match rd e2 y with
      | some (.list ds) => (match strsOf ds with
        | some ys => if Nat.ble ((ys.map fun z : Str => z.length).sum + ys.length * a.length) 100000 = true then R.ok (Vd.dat (.str (Txt.join a ys))) e2 else .bad
        | none => .bad)
      | _ => .bad) = _
  rw [h4]
  simp only
  rw [h5]
  simp only
  rw [if_pos h6]
theorem str_gen {f : FD} {tr : List Nat} (h : tr ≠ []) (k : Int) {z : Nat} (hz : la tr = z) {S T U V W : Str} (hS : gStr [.int (Int.ofNat z)] = some (.str S)) (hT : m_text_of [fdD f] = .ok (.str T)) (h1 : gAdd (.str "(") (.str T) = some (.str U)) (h2 : gAdd (.str U) (.str ")") = some (.str V))
    (h3 : Nat.ble ((([S, V] : List Str).map (·.length)).sum + ([S, V] : List Str).length * (" " : Str).length) 100000 = true) (h4 : Txt.join " " [S, V] = W) : m_Reckoner___str__ [rk true f tr k] = .ok (.str W) none (some (rkO f tr k)) := by
  subst hz h4
  show (g_Reckoner___str__ [rk true f tr k]).g none (some 0) = _
  unfold g_Reckoner___str__
  rw [v_ret (v_join (a := " ") (ys := [S, V]) (by rfl) (by rfl) (v_eN (v_nLst (v_aCons (v_eB (v_aCons (v_fldIx (fv := .li (nL tr)) (by rfl) (by exact kIx_last h)) (by rfl)) (by rfl) (by exact hS)) (v_aCons (v_op2 (v_op2 (by rfl) (v_call (v_aCons (by rfl) (by rfl)) (by rfl) (by exact hT)) (by rfl) (by rfl) (by exact h1)) (by rfl) (by rfl) (by rfl) (by exact h2)) (by rfl))) (by rfl) (by rfl))) (by rfl) (by rfl) h3) (by rfl)]
  rfl
end Pf
namespace Pf
open PySem PySem.Spec PyProof.Rows L2
theorem fy0_ok : FOk fy0 := fok_of oky0
theorem fy0_g : chkG fy0 = true := by kernel_rfl
theorem fy0_l : chkL fy0 = true := by kernel_rfl
theorem fy0_s : chkShp fy0 = true := by kernel_rfl
theorem fy0_x : TX fy0 := ⟨"2:1,0,0,1,0", "(2:1,0,0,1,0", "(2:1,0,0,1,0)", "1 (2:1,0,0,1,0)", "1 (2:1,0,0,1,0", by kernel_rfl, by kernel_rfl, by kernel_rfl, by kernel_rfl, by kernel_rfl, by kernel_rfl, by kernel_rfl, by kernel_rfl, by kernel_rfl⟩
theorem fy0_16 : OK16 fy0 := ⟨fy0_ok, by decide, fy0_g, fy0_l, fy0_s, fy0_x⟩
theorem fy6_ok : FOk fy6 := fok_of oky6
theorem fy6_g : chkG fy6 = true := by kernel_rfl
theorem fy6_l : chkL fy6 = true := by kernel_rfl
theorem fy6_s : chkShp fy6 = true := by kernel_rfl
theorem fy6_x : TX fy6 := ⟨"3:1,0,2", "(3:1,0,2", "(3:1,0,2)", "1 (3:1,0,2)", "1 (3:1,0,2", by kernel_rfl, by kernel_rfl, by kernel_rfl, by kernel_rfl, by kernel_rfl, by kernel_rfl, by kernel_rfl, by kernel_rfl, by kernel_rfl⟩
theorem fy6_16 : OK16 fy6 := ⟨fy6_ok, by decide, fy6_g, fy6_l, fy6_s, fy6_x⟩
theorem fy11_ok : FOk fy11 := fok_of oky11
theorem fy11_g : chkG fy11 = true := by kernel_rfl
theorem fy11_l : chkL fy11 = true := by kernel_rfl
theorem fy11_s : chkShp fy11 = true := by kernel_rfl
theorem fy11_x : TX fy11 := ⟨"3:2,2,0", "(3:2,2,0", "(3:2,2,0)", "1 (3:2,2,0)", "1 (3:2,2,0", by kernel_rfl, by kernel_rfl, by kernel_rfl, by kernel_rfl, by kernel_rfl, by kernel_rfl, by kernel_rfl, by kernel_rfl, by kernel_rfl⟩
theorem fy11_16 : OK16 fy11 := ⟨fy11_ok, by decide, fy11_g, fy11_l, fy11_s, fy11_x⟩
theorem fy16_ok : FOk fy16 := fok_of oky16
theorem fy16_g : chkG fy16 = true := by kernel_rfl
theorem fy16_l : chkL fy16 = true := by kernel_rfl
theorem fy16_s : chkShp fy16 = true := by kernel_rfl
theorem fy16_x : TX fy16 := ⟨"5:2,4", "(5:2,4", "(5:2,4)", "1 (5:2,4)", "1 (5:2,4", by kernel_rfl, by kernel_rfl, by kernel_rfl, by kernel_rfl, by kernel_rfl, by kernel_rfl, by kernel_rfl, by kernel_rfl, by kernel_rfl⟩
theorem fy16_16 : OK16 fy16 := ⟨fy16_ok, by decide, fy16_g, fy16_l, fy16_s, fy16_x⟩
def fo6 : FD := fdA.getD 6 ⟨2, [], 0, 0, 0, 0⟩
theorem fo6_ok : FOk fo6 := fokA (List.mem_of_getElem? (i := 6) (by rfl))
theorem fo6_g : chkG fo6 = true := by kernel_rfl
theorem fo6_l : chkL fo6 = true := by kernel_rfl
theorem fo6_s : chkShp fo6 = true := by kernel_rfl
theorem fo6_x : TX fo6 := ⟨"2:1,0,0,1", "(2:1,0,0,1", "(2:1,0,0,1)", "1 (2:1,0,0,1)", "1 (2:1,0,0,1", by kernel_rfl, by kernel_rfl, by kernel_rfl, by kernel_rfl, by kernel_rfl, by kernel_rfl, by kernel_rfl, by kernel_rfl, by kernel_rfl⟩
theorem fo6_16 : OK16 fo6 := ⟨fo6_ok, by decide, fo6_g, fo6_l, fo6_s, fo6_x⟩
def fo33 : FD := fdA.getD 33 ⟨2, [], 0, 0, 0, 0⟩
theorem fo33_ok : FOk fo33 := fokA (List.mem_of_getElem? (i := 33) (by rfl))
theorem fo33_g : chkG fo33 = true := by kernel_rfl
theorem fo33_l : chkL fo33 = true := by kernel_rfl
theorem fo33_s : chkShp fo33 = true := by kernel_rfl
theorem fo33_x : TX fo33 := ⟨"11:2", "(11:2", "(11:2)", "1 (11:2)", "1 (11:2", by kernel_rfl, by kernel_rfl, by kernel_rfl, by kernel_rfl, by kernel_rfl, by kernel_rfl, by kernel_rfl, by kernel_rfl, by kernel_rfl⟩
theorem fo33_16 : OK16 fo33 := ⟨fo33_ok, by decide, fo33_g, fo33_l, fo33_s, fo33_x⟩
def fo38 : FD := fdA.getD 38 ⟨2, [], 0, 0, 0, 0⟩
theorem fo38_ok : FOk fo38 := fokA (List.mem_of_getElem? (i := 38) (by rfl))
theorem fo38_g : chkG fo38 = true := by kernel_rfl
theorem fo38_l : chkL fo38 = true := by kernel_rfl
theorem fo38_s : chkShp fo38 = true := by kernel_rfl
theorem fo38_x : TX fo38 := ⟨"11:8", "(11:8", "(11:8)", "1 (11:8)", "1 (11:8", by kernel_rfl, by kernel_rfl, by kernel_rfl, by kernel_rfl, by kernel_rfl, by kernel_rfl, by kernel_rfl, by kernel_rfl, by kernel_rfl⟩
theorem fo38_16 : OK16 fo38 := ⟨fo38_ok, by decide, fo38_g, fo38_l, fo38_s, fo38_x⟩
def fo4 : FD := fdA.getD 4 ⟨2, [], 0, 0, 0, 0⟩
theorem fo4_ok : FOk fo4 := fokA (List.mem_of_getElem? (i := 4) (by rfl))
theorem fo4_g : chkG fo4 = true := by kernel_rfl
theorem fo4_l : chkL fo4 = true := by kernel_rfl
theorem fo4_s : chkShp fo4 = true := by kernel_rfl
theorem fo4_x : TX fo4 := ⟨"2:1,0,1", "(2:1,0,1", "(2:1,0,1)", "1 (2:1,0,1)", "1 (2:1,0,1", by kernel_rfl, by kernel_rfl, by kernel_rfl, by kernel_rfl, by kernel_rfl, by kernel_rfl, by kernel_rfl, by kernel_rfl, by kernel_rfl⟩
theorem fo4_16 : OK16 fo4 := ⟨fo4_ok, by decide, fo4_g, fo4_l, fo4_s, fo4_x⟩
def fo28 : FD := fdA.getD 28 ⟨2, [], 0, 0, 0, 0⟩
theorem fo28_ok : FOk fo28 := fokA (List.mem_of_getElem? (i := 28) (by rfl))
theorem fo28_g : chkG fo28 = true := by kernel_rfl
theorem fo28_l : chkL fo28 = true := by kernel_rfl
theorem fo28_s : chkShp fo28 = true := by kernel_rfl
theorem fo28_x : TX fo28 := ⟨"7:4", "(7:4", "(7:4)", "1 (7:4)", "1 (7:4", by kernel_rfl, by kernel_rfl, by kernel_rfl, by kernel_rfl, by kernel_rfl, by kernel_rfl, by kernel_rfl, by kernel_rfl, by kernel_rfl⟩
theorem fo28_16 : OK16 fo28 := ⟨fo28_ok, by decide, fo28_g, fo28_l, fo28_s, fo28_x⟩
def fo23 : FD := fdA.getD 23 ⟨2, [], 0, 0, 0, 0⟩
theorem fo23_ok : FOk fo23 := fokA (List.mem_of_getElem? (i := 23) (by rfl))
theorem fo23_g : chkG fo23 = true := by kernel_rfl
theorem fo23_l : chkL fo23 = true := by kernel_rfl
theorem fo23_s : chkShp fo23 = true := by kernel_rfl
theorem fo23_x : TX fo23 := ⟨"5:3", "(5:3", "(5:3)", "1 (5:3)", "1 (5:3", by kernel_rfl, by kernel_rfl, by kernel_rfl, by kernel_rfl, by kernel_rfl, by kernel_rfl, by kernel_rfl, by kernel_rfl, by kernel_rfl⟩
theorem fo23_16 : OK16 fo23 := ⟨fo23_ok, by decide, fo23_g, fo23_l, fo23_s, fo23_x⟩
def fo0 : FD := fdA.getD 0 ⟨2, [], 0, 0, 0, 0⟩
theorem fo0_ok : FOk fo0 := fokA (List.mem_of_getElem? (i := 0) (by rfl))
theorem fo0_g : chkG fo0 = true := by kernel_rfl
theorem fo0_l : chkL fo0 = true := by kernel_rfl
theorem fo0_s : chkShp fo0 = true := by kernel_rfl
theorem fo0_x : TX fo0 := ⟨"2:0", "(2:0", "(2:0)", "1 (2:0)", "1 (2:0", by kernel_rfl, by kernel_rfl, by kernel_rfl, by kernel_rfl, by kernel_rfl, by kernel_rfl, by kernel_rfl, by kernel_rfl, by kernel_rfl⟩
theorem fo0_16 : OK16 fo0 := ⟨fo0_ok, by decide, fo0_g, fo0_l, fo0_s, fo0_x⟩
end Pf
namespace Pf
open PySem PySem.Spec PyProof.Rows L2
def fo8 : FD := fdA.getD 8 ⟨2, [], 0, 0, 0, 0⟩
theorem fo8_ok : FOk fo8 := fokA (List.mem_of_getElem? (i := 8) (by rfl))
theorem fo8_g : chkG fo8 = true := by kernel_rfl
theorem fo8_l : chkL fo8 = true := by kernel_rfl
theorem fo8_s : chkShp fo8 = true := by kernel_rfl
theorem fo8_x : TX fo8 := ⟨"2:1,0,1,0,0", "(2:1,0,1,0,0", "(2:1,0,1,0,0)", "1 (2:1,0,1,0,0)", "1 (2:1,0,1,0,0", by kernel_rfl, by kernel_rfl, by kernel_rfl, by kernel_rfl, by kernel_rfl, by kernel_rfl, by kernel_rfl, by kernel_rfl, by kernel_rfl⟩
theorem fo8_16 : OK16 fo8 := ⟨fo8_ok, by decide, fo8_g, fo8_l, fo8_s, fo8_x⟩
theorem fy7_ok : FOk fy7 := fok_of oky7
theorem fy7_g : chkG fy7 = true := by kernel_rfl
theorem fy7_l : chkL fy7 = true := by kernel_rfl
theorem fy7_s : chkShp fy7 = true := by kernel_rfl
theorem fy7_x : TX fy7 := ⟨"3:1,1,2", "(3:1,1,2", "(3:1,1,2)", "1 (3:1,1,2)", "1 (3:1,1,2", by kernel_rfl, by kernel_rfl, by kernel_rfl, by kernel_rfl, by kernel_rfl, by kernel_rfl, by kernel_rfl, by kernel_rfl, by kernel_rfl⟩
theorem fy7_16 : OK16 fy7 := ⟨fy7_ok, by decide, fy7_g, fy7_l, fy7_s, fy7_x⟩
theorem fy12_ok : FOk fy12 := fok_of oky12
theorem fy12_g : chkG fy12 = true := by kernel_rfl
theorem fy12_l : chkL fy12 = true := by kernel_rfl
theorem fy12_s : chkShp fy12 = true := by kernel_rfl
theorem fy12_x : TX fy12 := ⟨"3:2,2,2", "(3:2,2,2", "(3:2,2,2)", "1 (3:2,2,2)", "1 (3:2,2,2", by kernel_rfl, by kernel_rfl, by kernel_rfl, by kernel_rfl, by kernel_rfl, by kernel_rfl, by kernel_rfl, by kernel_rfl, by kernel_rfl⟩
theorem fy12_16 : OK16 fy12 := ⟨fy12_ok, by decide, fy12_g, fy12_l, fy12_s, fy12_x⟩
def fo15 : FD := fdA.getD 15 ⟨2, [], 0, 0, 0, 0⟩
theorem fo15_ok : FOk fo15 := fokA (List.mem_of_getElem? (i := 15) (by rfl))
theorem fo15_g : chkG fo15 = true := by kernel_rfl
theorem fo15_l : chkL fo15 = true := by kernel_rfl
theorem fo15_s : chkShp fo15 = true := by kernel_rfl
theorem fo15_x : TX fo15 := ⟨"5:3,0", "(5:3,0", "(5:3,0)", "1 (5:3,0)", "1 (5:3,0", by kernel_rfl, by kernel_rfl, by kernel_rfl, by kernel_rfl, by kernel_rfl, by kernel_rfl, by kernel_rfl, by kernel_rfl, by kernel_rfl⟩
theorem fo15_16 : OK16 fo15 := ⟨fo15_ok, by decide, fo15_g, fo15_l, fo15_s, fo15_x⟩
def fo5 : FD := fdA.getD 5 ⟨2, [], 0, 0, 0, 0⟩
theorem fo5_ok : FOk fo5 := fokA (List.mem_of_getElem? (i := 5) (by rfl))
theorem fo5_g : chkG fo5 = true := by kernel_rfl
theorem fo5_l : chkL fo5 = true := by kernel_rfl
theorem fo5_s : chkShp fo5 = true := by kernel_rfl
theorem fo5_x : TX fo5 := ⟨"2:1,1,0,0", "(2:1,1,0,0", "(2:1,1,0,0)", "1 (2:1,1,0,0)", "1 (2:1,1,0,0", by kernel_rfl, by kernel_rfl, by kernel_rfl, by kernel_rfl, by kernel_rfl, by kernel_rfl, by kernel_rfl, by kernel_rfl, by kernel_rfl⟩
theorem fo5_16 : OK16 fo5 := ⟨fo5_ok, by decide, fo5_g, fo5_l, fo5_s, fo5_x⟩
def fo34 : FD := fdA.getD 34 ⟨2, [], 0, 0, 0, 0⟩
theorem fo34_ok : FOk fo34 := fokA (List.mem_of_getElem? (i := 34) (by rfl))
theorem fo34_g : chkG fo34 = true := by kernel_rfl
theorem fo34_l : chkL fo34 = true := by kernel_rfl
theorem fo34_s : chkShp fo34 = true := by kernel_rfl
theorem fo34_x : TX fo34 := ⟨"11:3", "(11:3", "(11:3)", "1 (11:3)", "1 (11:3", by kernel_rfl, by kernel_rfl, by kernel_rfl, by kernel_rfl, by kernel_rfl, by kernel_rfl, by kernel_rfl, by kernel_rfl, by kernel_rfl⟩
theorem fo34_16 : OK16 fo34 := ⟨fo34_ok, by decide, fo34_g, fo34_l, fo34_s, fo34_x⟩
def fo39 : FD := fdA.getD 39 ⟨2, [], 0, 0, 0, 0⟩
theorem fo39_ok : FOk fo39 := fokA (List.mem_of_getElem? (i := 39) (by rfl))
theorem fo39_g : chkG fo39 = true := by kernel_rfl
theorem fo39_l : chkL fo39 = true := by kernel_rfl
theorem fo39_s : chkShp fo39 = true := by kernel_rfl
theorem fo39_x : TX fo39 := ⟨"11:9", "(11:9", "(11:9)", "1 (11:9)", "1 (11:9", by kernel_rfl, by kernel_rfl, by kernel_rfl, by kernel_rfl, by kernel_rfl, by kernel_rfl, by kernel_rfl, by kernel_rfl, by kernel_rfl⟩
theorem fo39_16 : OK16 fo39 := ⟨fo39_ok, by decide, fo39_g, fo39_l, fo39_s, fo39_x⟩
def fo3 : FD := fdA.getD 3 ⟨2, [], 0, 0, 0, 0⟩
theorem fo3_ok : FOk fo3 := fokA (List.mem_of_getElem? (i := 3) (by rfl))
theorem fo3_g : chkG fo3 = true := by kernel_rfl
theorem fo3_l : chkL fo3 = true := by kernel_rfl
theorem fo3_s : chkShp fo3 = true := by kernel_rfl
theorem fo3_x : TX fo3 := ⟨"2:1,1,0", "(2:1,1,0", "(2:1,1,0)", "1 (2:1,1,0)", "1 (2:1,1,0", by kernel_rfl, by kernel_rfl, by kernel_rfl, by kernel_rfl, by kernel_rfl, by kernel_rfl, by kernel_rfl, by kernel_rfl, by kernel_rfl⟩
theorem fo3_16 : OK16 fo3 := ⟨fo3_ok, by decide, fo3_g, fo3_l, fo3_s, fo3_x⟩
def fo29 : FD := fdA.getD 29 ⟨2, [], 0, 0, 0, 0⟩
theorem fo29_ok : FOk fo29 := fokA (List.mem_of_getElem? (i := 29) (by rfl))
theorem fo29_g : chkG fo29 = true := by kernel_rfl
theorem fo29_l : chkL fo29 = true := by kernel_rfl
theorem fo29_s : chkShp fo29 = true := by kernel_rfl
theorem fo29_x : TX fo29 := ⟨"7:5", "(7:5", "(7:5)", "1 (7:5)", "1 (7:5", by kernel_rfl, by kernel_rfl, by kernel_rfl, by kernel_rfl, by kernel_rfl, by kernel_rfl, by kernel_rfl, by kernel_rfl, by kernel_rfl⟩
theorem fo29_16 : OK16 fo29 := ⟨fo29_ok, by decide, fo29_g, fo29_l, fo29_s, fo29_x⟩
def fo24 : FD := fdA.getD 24 ⟨2, [], 0, 0, 0, 0⟩
theorem fo24_ok : FOk fo24 := fokA (List.mem_of_getElem? (i := 24) (by rfl))
theorem fo24_g : chkG fo24 = true := by kernel_rfl
theorem fo24_l : chkL fo24 = true := by kernel_rfl
theorem fo24_s : chkShp fo24 = true := by kernel_rfl
theorem fo24_x : TX fo24 := ⟨"5:4", "(5:4", "(5:4)", "1 (5:4)", "1 (5:4", by kernel_rfl, by kernel_rfl, by kernel_rfl, by kernel_rfl, by kernel_rfl, by kernel_rfl, by kernel_rfl, by kernel_rfl, by kernel_rfl⟩
theorem fo24_16 : OK16 fo24 := ⟨fo24_ok, by decide, fo24_g, fo24_l, fo24_s, fo24_x⟩
def fo1 : FD := fdA.getD 1 ⟨2, [], 0, 0, 0, 0⟩
theorem fo1_ok : FOk fo1 := fokA (List.mem_of_getElem? (i := 1) (by rfl))
theorem fo1_g : chkG fo1 = true := by kernel_rfl
theorem fo1_l : chkL fo1 = true := by kernel_rfl
theorem fo1_s : chkShp fo1 = true := by kernel_rfl
theorem fo1_x : TX fo1 := ⟨"2:1", "(2:1", "(2:1)", "1 (2:1)", "1 (2:1", by kernel_rfl, by kernel_rfl, by kernel_rfl, by kernel_rfl, by kernel_rfl, by kernel_rfl, by kernel_rfl, by kernel_rfl, by kernel_rfl⟩
theorem fo1_16 : OK16 fo1 := ⟨fo1_ok, by decide, fo1_g, fo1_l, fo1_s, fo1_x⟩
end Pf
namespace Pf
open PySem PySem.Spec PyProof.Rows L2
theorem fy1_ok : FOk fy1 := fok_of oky1
theorem fy1_g : chkG fy1 = true := by kernel_rfl
theorem fy1_l : chkL fy1 = true := by kernel_rfl
theorem fy1_s : chkShp fy1 = true := by kernel_rfl
theorem fy1_x : TX fy1 := ⟨"2:1,0,1,1,1", "(2:1,0,1,1,1", "(2:1,0,1,1,1)", "1 (2:1,0,1,1,1)", "1 (2:1,0,1,1,1", by kernel_rfl, by kernel_rfl, by kernel_rfl, by kernel_rfl, by kernel_rfl, by kernel_rfl, by kernel_rfl, by kernel_rfl, by kernel_rfl⟩
theorem fy1_16 : OK16 fy1 := ⟨fy1_ok, by decide, fy1_g, fy1_l, fy1_s, fy1_x⟩
def fo12 : FD := fdA.getD 12 ⟨2, [], 0, 0, 0, 0⟩
theorem fo12_ok : FOk fo12 := fokA (List.mem_of_getElem? (i := 12) (by rfl))
theorem fo12_g : chkG fo12 = true := by kernel_rfl
theorem fo12_l : chkL fo12 = true := by kernel_rfl
theorem fo12_s : chkShp fo12 = true := by kernel_rfl
theorem fo12_x : TX fo12 := ⟨"3:1,2,0", "(3:1,2,0", "(3:1,2,0)", "1 (3:1,2,0)", "1 (3:1,2,0", by kernel_rfl, by kernel_rfl, by kernel_rfl, by kernel_rfl, by kernel_rfl, by kernel_rfl, by kernel_rfl, by kernel_rfl, by kernel_rfl⟩
theorem fo12_16 : OK16 fo12 := ⟨fo12_ok, by decide, fo12_g, fo12_l, fo12_s, fo12_x⟩
theorem fy13_ok : FOk fy13 := fok_of oky13
theorem fy13_g : chkG fy13 = true := by kernel_rfl
theorem fy13_l : chkL fy13 = true := by kernel_rfl
theorem fy13_s : chkShp fy13 = true := by kernel_rfl
theorem fy13_x : TX fy13 := ⟨"5:1,1", "(5:1,1", "(5:1,1)", "1 (5:1,1)", "1 (5:1,1", by kernel_rfl, by kernel_rfl, by kernel_rfl, by kernel_rfl, by kernel_rfl, by kernel_rfl, by kernel_rfl, by kernel_rfl, by kernel_rfl⟩
theorem fy13_16 : OK16 fy13 := ⟨fy13_ok, by decide, fy13_g, fy13_l, fy13_s, fy13_x⟩
theorem fy17_ok : FOk fy17 := fok_of oky17
theorem fy17_g : chkG fy17 = true := by kernel_rfl
theorem fy17_l : chkL fy17 = true := by kernel_rfl
theorem fy17_s : chkShp fy17 = true := by kernel_rfl
theorem fy17_x : TX fy17 := ⟨"5:3,2", "(5:3,2", "(5:3,2)", "1 (5:3,2)", "1 (5:3,2", by kernel_rfl, by kernel_rfl, by kernel_rfl, by kernel_rfl, by kernel_rfl, by kernel_rfl, by kernel_rfl, by kernel_rfl, by kernel_rfl⟩
theorem fy17_16 : OK16 fy17 := ⟨fy17_ok, by decide, fy17_g, fy17_l, fy17_s, fy17_x⟩
def fo7 : FD := fdA.getD 7 ⟨2, [], 0, 0, 0, 0⟩
theorem fo7_ok : FOk fo7 := fokA (List.mem_of_getElem? (i := 7) (by rfl))
theorem fo7_g : chkG fo7 = true := by kernel_rfl
theorem fo7_l : chkL fo7 = true := by kernel_rfl
theorem fo7_s : chkShp fo7 = true := by kernel_rfl
theorem fo7_x : TX fo7 := ⟨"2:1,1,1,1", "(2:1,1,1,1", "(2:1,1,1,1)", "1 (2:1,1,1,1)", "1 (2:1,1,1,1", by kernel_rfl, by kernel_rfl, by kernel_rfl, by kernel_rfl, by kernel_rfl, by kernel_rfl, by kernel_rfl, by kernel_rfl, by kernel_rfl⟩
theorem fo7_16 : OK16 fo7 := ⟨fo7_ok, by decide, fo7_g, fo7_l, fo7_s, fo7_x⟩
def fo17 : FD := fdA.getD 17 ⟨2, [], 0, 0, 0, 0⟩
theorem fo17_ok : FOk fo17 := fokA (List.mem_of_getElem? (i := 17) (by rfl))
theorem fo17_g : chkG fo17 = true := by kernel_rfl
theorem fo17_l : chkL fo17 = true := by kernel_rfl
theorem fo17_s : chkShp fo17 = true := by kernel_rfl
theorem fo17_x : TX fo17 := ⟨"11:4", "(11:4", "(11:4)", "1 (11:4)", "1 (11:4", by kernel_rfl, by kernel_rfl, by kernel_rfl, by kernel_rfl, by kernel_rfl, by kernel_rfl, by kernel_rfl, by kernel_rfl, by kernel_rfl⟩
theorem fo17_16 : OK16 fo17 := ⟨fo17_ok, by decide, fo17_g, fo17_l, fo17_s, fo17_x⟩
def fo40 : FD := fdA.getD 40 ⟨2, [], 0, 0, 0, 0⟩
theorem fo40_ok : FOk fo40 := fokA (List.mem_of_getElem? (i := 40) (by rfl))
theorem fo40_g : chkG fo40 = true := by kernel_rfl
theorem fo40_l : chkL fo40 = true := by kernel_rfl
theorem fo40_s : chkShp fo40 = true := by kernel_rfl
theorem fo40_x : TX fo40 := ⟨"11:10", "(11:10", "(11:10)", "1 (11:10)", "1 (11:10", by kernel_rfl, by kernel_rfl, by kernel_rfl, by kernel_rfl, by kernel_rfl, by kernel_rfl, by kernel_rfl, by kernel_rfl, by kernel_rfl⟩
theorem fo40_16 : OK16 fo40 := ⟨fo40_ok, by decide, fo40_g, fo40_l, fo40_s, fo40_x⟩
def fo16 : FD := fdA.getD 16 ⟨2, [], 0, 0, 0, 0⟩
theorem fo16_ok : FOk fo16 := fokA (List.mem_of_getElem? (i := 16) (by rfl))
theorem fo16_g : chkG fo16 = true := by kernel_rfl
theorem fo16_l : chkL fo16 = true := by kernel_rfl
theorem fo16_s : chkShp fo16 = true := by kernel_rfl
theorem fo16_x : TX fo16 := ⟨"7:0", "(7:0", "(7:0)", "1 (7:0)", "1 (7:0", by kernel_rfl, by kernel_rfl, by kernel_rfl, by kernel_rfl, by kernel_rfl, by kernel_rfl, by kernel_rfl, by kernel_rfl, by kernel_rfl⟩
theorem fo16_16 : OK16 fo16 := ⟨fo16_ok, by decide, fo16_g, fo16_l, fo16_s, fo16_x⟩
def fo30 : FD := fdA.getD 30 ⟨2, [], 0, 0, 0, 0⟩
theorem fo30_ok : FOk fo30 := fokA (List.mem_of_getElem? (i := 30) (by rfl))
theorem fo30_g : chkG fo30 = true := by kernel_rfl
theorem fo30_l : chkL fo30 = true := by kernel_rfl
theorem fo30_s : chkShp fo30 = true := by kernel_rfl
theorem fo30_x : TX fo30 := ⟨"7:6", "(7:6", "(7:6)", "1 (7:6)", "1 (7:6", by kernel_rfl, by kernel_rfl, by kernel_rfl, by kernel_rfl, by kernel_rfl, by kernel_rfl, by kernel_rfl, by kernel_rfl, by kernel_rfl⟩
theorem fo30_16 : OK16 fo30 := ⟨fo30_ok, by decide, fo30_g, fo30_l, fo30_s, fo30_x⟩
def fo2 : FD := fdA.getD 2 ⟨2, [], 0, 0, 0, 0⟩
theorem fo2_ok : FOk fo2 := fokA (List.mem_of_getElem? (i := 2) (by rfl))
theorem fo2_g : chkG fo2 = true := by kernel_rfl
theorem fo2_l : chkL fo2 = true := by kernel_rfl
theorem fo2_s : chkShp fo2 = true := by kernel_rfl
theorem fo2_x : TX fo2 := ⟨"2:1,1", "(2:1,1", "(2:1,1)", "1 (2:1,1)", "1 (2:1,1", by kernel_rfl, by kernel_rfl, by kernel_rfl, by kernel_rfl, by kernel_rfl, by kernel_rfl, by kernel_rfl, by kernel_rfl, by kernel_rfl⟩
theorem fo2_16 : OK16 fo2 := ⟨fo2_ok, by decide, fo2_g, fo2_l, fo2_s, fo2_x⟩
end Pf
namespace Pf
open PySem PySem.Spec PyProof.Rows L2
theorem fy2_ok : FOk fy2 := fok_of oky2
theorem fy2_g : chkG fy2 = true := by kernel_rfl
theorem fy2_l : chkL fy2 = true := by kernel_rfl
theorem fy2_s : chkShp fy2 = true := by kernel_rfl
theorem fy2_x : TX fy2 := ⟨"2:1,1,0,1,1", "(2:1,1,0,1,1", "(2:1,1,0,1,1)", "1 (2:1,1,0,1,1)", "1 (2:1,1,0,1,1", by kernel_rfl, by kernel_rfl, by kernel_rfl, by kernel_rfl, by kernel_rfl, by kernel_rfl, by kernel_rfl, by kernel_rfl, by kernel_rfl⟩
theorem fy2_16 : OK16 fy2 := ⟨fy2_ok, by decide, fy2_g, fy2_l, fy2_s, fy2_x⟩
theorem fy8_ok : FOk fy8 := fok_of oky8
theorem fy8_g : chkG fy8 = true := by kernel_rfl
theorem fy8_l : chkL fy8 = true := by kernel_rfl
theorem fy8_s : chkShp fy8 = true := by kernel_rfl
theorem fy8_x : TX fy8 := ⟨"3:1,2,1", "(3:1,2,1", "(3:1,2,1)", "1 (3:1,2,1)", "1 (3:1,2,1", by kernel_rfl, by kernel_rfl, by kernel_rfl, by kernel_rfl, by kernel_rfl, by kernel_rfl, by kernel_rfl, by kernel_rfl, by kernel_rfl⟩
theorem fy8_16 : OK16 fy8 := ⟨fy8_ok, by decide, fy8_g, fy8_l, fy8_s, fy8_x⟩
theorem fy14_ok : FOk fy14 := fok_of oky14
theorem fy14_g : chkG fy14 = true := by kernel_rfl
theorem fy14_l : chkL fy14 = true := by kernel_rfl
theorem fy14_s : chkShp fy14 = true := by kernel_rfl
theorem fy14_x : TX fy14 := ⟨"5:1,4", "(5:1,4", "(5:1,4)", "1 (5:1,4)", "1 (5:1,4", by kernel_rfl, by kernel_rfl, by kernel_rfl, by kernel_rfl, by kernel_rfl, by kernel_rfl, by kernel_rfl, by kernel_rfl, by kernel_rfl⟩
theorem fy14_16 : OK16 fy14 := ⟨fy14_ok, by decide, fy14_g, fy14_l, fy14_s, fy14_x⟩
theorem fy18_ok : FOk fy18 := fok_of oky18
theorem fy18_g : chkG fy18 = true := by kernel_rfl
theorem fy18_l : chkL fy18 = true := by kernel_rfl
theorem fy18_s : chkShp fy18 = true := by kernel_rfl
theorem fy18_x : TX fy18 := ⟨"5:3,3", "(5:3,3", "(5:3,3)", "1 (5:3,3)", "1 (5:3,3", by kernel_rfl, by kernel_rfl, by kernel_rfl, by kernel_rfl, by kernel_rfl, by kernel_rfl, by kernel_rfl, by kernel_rfl, by kernel_rfl⟩
theorem fy18_16 : OK16 fy18 := ⟨fy18_ok, by decide, fy18_g, fy18_l, fy18_s, fy18_x⟩
def fo18 : FD := fdA.getD 18 ⟨2, [], 0, 0, 0, 0⟩
theorem fo18_ok : FOk fo18 := fokA (List.mem_of_getElem? (i := 18) (by rfl))
theorem fo18_g : chkG fo18 = true := by kernel_rfl
theorem fo18_l : chkL fo18 = true := by kernel_rfl
theorem fo18_s : chkShp fo18 = true := by kernel_rfl
theorem fo18_x : TX fo18 := ⟨"13:1", "(13:1", "(13:1)", "1 (13:1)", "1 (13:1", by kernel_rfl, by kernel_rfl, by kernel_rfl, by kernel_rfl, by kernel_rfl, by kernel_rfl, by kernel_rfl, by kernel_rfl, by kernel_rfl⟩
theorem fo18_16 : OK16 fo18 := ⟨fo18_ok, by decide, fo18_g, fo18_l, fo18_s, fo18_x⟩
def fo35 : FD := fdA.getD 35 ⟨2, [], 0, 0, 0, 0⟩
theorem fo35_ok : FOk fo35 := fokA (List.mem_of_getElem? (i := 35) (by rfl))
theorem fo35_g : chkG fo35 = true := by kernel_rfl
theorem fo35_l : chkL fo35 = true := by kernel_rfl
theorem fo35_s : chkShp fo35 = true := by kernel_rfl
theorem fo35_x : TX fo35 := ⟨"11:5", "(11:5", "(11:5)", "1 (11:5)", "1 (11:5", by kernel_rfl, by kernel_rfl, by kernel_rfl, by kernel_rfl, by kernel_rfl, by kernel_rfl, by kernel_rfl, by kernel_rfl, by kernel_rfl⟩
theorem fo35_16 : OK16 fo35 := ⟨fo35_ok, by decide, fo35_g, fo35_l, fo35_s, fo35_x⟩
def fo10 : FD := fdA.getD 10 ⟨2, [], 0, 0, 0, 0⟩
theorem fo10_ok : FOk fo10 := fokA (List.mem_of_getElem? (i := 10) (by rfl))
theorem fo10_g : chkG fo10 = true := by kernel_rfl
theorem fo10_l : chkL fo10 = true := by kernel_rfl
theorem fo10_s : chkShp fo10 = true := by kernel_rfl
theorem fo10_x : TX fo10 := ⟨"3:1,0", "(3:1,0", "(3:1,0)", "1 (3:1,0)", "1 (3:1,0", by kernel_rfl, by kernel_rfl, by kernel_rfl, by kernel_rfl, by kernel_rfl, by kernel_rfl, by kernel_rfl, by kernel_rfl, by kernel_rfl⟩
theorem fo10_16 : OK16 fo10 := ⟨fo10_ok, by decide, fo10_g, fo10_l, fo10_s, fo10_x⟩
def fo25 : FD := fdA.getD 25 ⟨2, [], 0, 0, 0, 0⟩
theorem fo25_ok : FOk fo25 := fokA (List.mem_of_getElem? (i := 25) (by rfl))
theorem fo25_g : chkG fo25 = true := by kernel_rfl
theorem fo25_l : chkL fo25 = true := by kernel_rfl
theorem fo25_s : chkShp fo25 = true := by kernel_rfl
theorem fo25_x : TX fo25 := ⟨"7:1", "(7:1", "(7:1)", "1 (7:1)", "1 (7:1", by kernel_rfl, by kernel_rfl, by kernel_rfl, by kernel_rfl, by kernel_rfl, by kernel_rfl, by kernel_rfl, by kernel_rfl, by kernel_rfl⟩
theorem fo25_16 : OK16 fo25 := ⟨fo25_ok, by decide, fo25_g, fo25_l, fo25_s, fo25_x⟩
def fo21 : FD := fdA.getD 21 ⟨2, [], 0, 0, 0, 0⟩
theorem fo21_ok : FOk fo21 := fokA (List.mem_of_getElem? (i := 21) (by rfl))
theorem fo21_g : chkG fo21 = true := by kernel_rfl
theorem fo21_l : chkL fo21 = true := by kernel_rfl
theorem fo21_s : chkShp fo21 = true := by kernel_rfl
theorem fo21_x : TX fo21 := ⟨"5:0", "(5:0", "(5:0)", "1 (5:0)", "1 (5:0", by kernel_rfl, by kernel_rfl, by kernel_rfl, by kernel_rfl, by kernel_rfl, by kernel_rfl, by kernel_rfl, by kernel_rfl, by kernel_rfl⟩
theorem fo21_16 : OK16 fo21 := ⟨fo21_ok, by decide, fo21_g, fo21_l, fo21_s, fo21_x⟩
def fo19 : FD := fdA.getD 19 ⟨2, [], 0, 0, 0, 0⟩
theorem fo19_ok : FOk fo19 := fokA (List.mem_of_getElem? (i := 19) (by rfl))
theorem fo19_g : chkG fo19 = true := by kernel_rfl
theorem fo19_l : chkL fo19 = true := by kernel_rfl
theorem fo19_s : chkShp fo19 = true := by kernel_rfl
theorem fo19_x : TX fo19 := ⟨"3:0", "(3:0", "(3:0)", "1 (3:0)", "1 (3:0", by kernel_rfl, by kernel_rfl, by kernel_rfl, by kernel_rfl, by kernel_rfl, by kernel_rfl, by kernel_rfl, by kernel_rfl, by kernel_rfl⟩
theorem fo19_16 : OK16 fo19 := ⟨fo19_ok, by decide, fo19_g, fo19_l, fo19_s, fo19_x⟩
end Pf
namespace Pf
open PySem PySem.Spec PyProof.Rows L2
theorem fy3_ok : FOk fy3 := fok_of oky3
theorem fy3_g : chkG fy3 = true := by kernel_rfl
theorem fy3_l : chkL fy3 = true := by kernel_rfl
theorem fy3_s : chkShp fy3 = true := by kernel_rfl
theorem fy3_x : TX fy3 := ⟨"2:1,1,1,0,1", "(2:1,1,1,0,1", "(2:1,1,1,0,1)", "1 (2:1,1,1,0,1)", "1 (2:1,1,1,0,1", by kernel_rfl, by kernel_rfl, by kernel_rfl, by kernel_rfl, by kernel_rfl, by kernel_rfl, by kernel_rfl, by kernel_rfl, by kernel_rfl⟩
theorem fy3_16 : OK16 fy3 := ⟨fy3_ok, by decide, fy3_g, fy3_l, fy3_s, fy3_x⟩
theorem fy9_ok : FOk fy9 := fok_of oky9
theorem fy9_g : chkG fy9 = true := by kernel_rfl
theorem fy9_l : chkL fy9 = true := by kernel_rfl
theorem fy9_s : chkShp fy9 = true := by kernel_rfl
theorem fy9_x : TX fy9 := ⟨"3:2,0,1", "(3:2,0,1", "(3:2,0,1)", "1 (3:2,0,1)", "1 (3:2,0,1", by kernel_rfl, by kernel_rfl, by kernel_rfl, by kernel_rfl, by kernel_rfl, by kernel_rfl, by kernel_rfl, by kernel_rfl, by kernel_rfl⟩
theorem fy9_16 : OK16 fy9 := ⟨fy9_ok, by decide, fy9_g, fy9_l, fy9_s, fy9_x⟩
def fo14 : FD := fdA.getD 14 ⟨2, [], 0, 0, 0, 0⟩
theorem fo14_ok : FOk fo14 := fokA (List.mem_of_getElem? (i := 14) (by rfl))
theorem fo14_g : chkG fo14 = true := by kernel_rfl
theorem fo14_l : chkL fo14 = true := by kernel_rfl
theorem fo14_s : chkShp fo14 = true := by kernel_rfl
theorem fo14_x : TX fo14 := ⟨"5:2,0", "(5:2,0", "(5:2,0)", "1 (5:2,0)", "1 (5:2,0", by kernel_rfl, by kernel_rfl, by kernel_rfl, by kernel_rfl, by kernel_rfl, by kernel_rfl, by kernel_rfl, by kernel_rfl, by kernel_rfl⟩
theorem fo14_16 : OK16 fo14 := ⟨fo14_ok, by decide, fo14_g, fo14_l, fo14_s, fo14_x⟩
theorem fy19_ok : FOk fy19 := fok_of oky19
theorem fy19_g : chkG fy19 = true := by kernel_rfl
theorem fy19_l : chkL fy19 = true := by kernel_rfl
theorem fy19_s : chkShp fy19 = true := by kernel_rfl
theorem fy19_x : TX fy19 := ⟨"5:4,2", "(5:4,2", "(5:4,2)", "1 (5:4,2)", "1 (5:4,2", by kernel_rfl, by kernel_rfl, by kernel_rfl, by kernel_rfl, by kernel_rfl, by kernel_rfl, by kernel_rfl, by kernel_rfl, by kernel_rfl⟩
theorem fy19_16 : OK16 fy19 := ⟨fy19_ok, by decide, fy19_g, fy19_l, fy19_s, fy19_x⟩
def fo31 : FD := fdA.getD 31 ⟨2, [], 0, 0, 0, 0⟩
theorem fo31_ok : FOk fo31 := fokA (List.mem_of_getElem? (i := 31) (by rfl))
theorem fo31_g : chkG fo31 = true := by kernel_rfl
theorem fo31_l : chkL fo31 = true := by kernel_rfl
theorem fo31_s : chkShp fo31 = true := by kernel_rfl
theorem fo31_x : TX fo31 := ⟨"11:0", "(11:0", "(11:0)", "1 (11:0)", "1 (11:0", by kernel_rfl, by kernel_rfl, by kernel_rfl, by kernel_rfl, by kernel_rfl, by kernel_rfl, by kernel_rfl, by kernel_rfl, by kernel_rfl⟩
theorem fo31_16 : OK16 fo31 := ⟨fo31_ok, by decide, fo31_g, fo31_l, fo31_s, fo31_x⟩
def fo36 : FD := fdA.getD 36 ⟨2, [], 0, 0, 0, 0⟩
theorem fo36_ok : FOk fo36 := fokA (List.mem_of_getElem? (i := 36) (by rfl))
theorem fo36_g : chkG fo36 = true := by kernel_rfl
theorem fo36_l : chkL fo36 = true := by kernel_rfl
theorem fo36_s : chkShp fo36 = true := by kernel_rfl
theorem fo36_x : TX fo36 := ⟨"11:6", "(11:6", "(11:6)", "1 (11:6)", "1 (11:6", by kernel_rfl, by kernel_rfl, by kernel_rfl, by kernel_rfl, by kernel_rfl, by kernel_rfl, by kernel_rfl, by kernel_rfl, by kernel_rfl⟩
theorem fo36_16 : OK16 fo36 := ⟨fo36_ok, by decide, fo36_g, fo36_l, fo36_s, fo36_x⟩
def fo11 : FD := fdA.getD 11 ⟨2, [], 0, 0, 0, 0⟩
theorem fo11_ok : FOk fo11 := fokA (List.mem_of_getElem? (i := 11) (by rfl))
theorem fo11_g : chkG fo11 = true := by kernel_rfl
theorem fo11_l : chkL fo11 = true := by kernel_rfl
theorem fo11_s : chkShp fo11 = true := by kernel_rfl
theorem fo11_x : TX fo11 := ⟨"3:2,1", "(3:2,1", "(3:2,1)", "1 (3:2,1)", "1 (3:2,1", by kernel_rfl, by kernel_rfl, by kernel_rfl, by kernel_rfl, by kernel_rfl, by kernel_rfl, by kernel_rfl, by kernel_rfl, by kernel_rfl⟩
theorem fo11_16 : OK16 fo11 := ⟨fo11_ok, by decide, fo11_g, fo11_l, fo11_s, fo11_x⟩
def fo26 : FD := fdA.getD 26 ⟨2, [], 0, 0, 0, 0⟩
theorem fo26_ok : FOk fo26 := fokA (List.mem_of_getElem? (i := 26) (by rfl))
theorem fo26_g : chkG fo26 = true := by kernel_rfl
theorem fo26_l : chkL fo26 = true := by kernel_rfl
theorem fo26_s : chkShp fo26 = true := by kernel_rfl
theorem fo26_x : TX fo26 := ⟨"7:2", "(7:2", "(7:2)", "1 (7:2)", "1 (7:2", by kernel_rfl, by kernel_rfl, by kernel_rfl, by kernel_rfl, by kernel_rfl, by kernel_rfl, by kernel_rfl, by kernel_rfl, by kernel_rfl⟩
theorem fo26_16 : OK16 fo26 := ⟨fo26_ok, by decide, fo26_g, fo26_l, fo26_s, fo26_x⟩
def fo22 : FD := fdA.getD 22 ⟨2, [], 0, 0, 0, 0⟩
theorem fo22_ok : FOk fo22 := fokA (List.mem_of_getElem? (i := 22) (by rfl))
theorem fo22_g : chkG fo22 = true := by kernel_rfl
theorem fo22_l : chkL fo22 = true := by kernel_rfl
theorem fo22_s : chkShp fo22 = true := by kernel_rfl
theorem fo22_x : TX fo22 := ⟨"5:1", "(5:1", "(5:1)", "1 (5:1)", "1 (5:1", by kernel_rfl, by kernel_rfl, by kernel_rfl, by kernel_rfl, by kernel_rfl, by kernel_rfl, by kernel_rfl, by kernel_rfl, by kernel_rfl⟩
theorem fo22_16 : OK16 fo22 := ⟨fo22_ok, by decide, fo22_g, fo22_l, fo22_s, fo22_x⟩
def fo9 : FD := fdA.getD 9 ⟨2, [], 0, 0, 0, 0⟩
theorem fo9_ok : FOk fo9 := fokA (List.mem_of_getElem? (i := 9) (by rfl))
theorem fo9_g : chkG fo9 = true := by kernel_rfl
theorem fo9_l : chkL fo9 = true := by kernel_rfl
theorem fo9_s : chkShp fo9 = true := by kernel_rfl
theorem fo9_x : TX fo9 := ⟨"3:1", "(3:1", "(3:1)", "1 (3:1)", "1 (3:1", by kernel_rfl, by kernel_rfl, by kernel_rfl, by kernel_rfl, by kernel_rfl, by kernel_rfl, by kernel_rfl, by kernel_rfl, by kernel_rfl⟩
theorem fo9_16 : OK16 fo9 := ⟨fo9_ok, by decide, fo9_g, fo9_l, fo9_s, fo9_x⟩
end Pf
namespace Pf
open PySem PySem.Spec PyProof.Rows L2
theorem fy4_ok : FOk fy4 := fok_of oky4
theorem fy4_g : chkG fy4 = true := by kernel_rfl
theorem fy4_l : chkL fy4 = true := by kernel_rfl
theorem fy4_s : chkShp fy4 = true := by kernel_rfl
theorem fy4_x : TX fy4 := ⟨"2:1,1,1,1,0", "(2:1,1,1,1,0", "(2:1,1,1,1,0)", "1 (2:1,1,1,1,0)", "1 (2:1,1,1,1,0", by kernel_rfl, by kernel_rfl, by kernel_rfl, by kernel_rfl, by kernel_rfl, by kernel_rfl, by kernel_rfl, by kernel_rfl, by kernel_rfl⟩
theorem fy4_16 : OK16 fy4 := ⟨fy4_ok, by decide, fy4_g, fy4_l, fy4_s, fy4_x⟩
theorem fy10_ok : FOk fy10 := fok_of oky10
theorem fy10_g : chkG fy10 = true := by kernel_rfl
theorem fy10_l : chkL fy10 = true := by kernel_rfl
theorem fy10_s : chkShp fy10 = true := by kernel_rfl
theorem fy10_x : TX fy10 := ⟨"3:2,1,1", "(3:2,1,1", "(3:2,1,1)", "1 (3:2,1,1)", "1 (3:2,1,1", by kernel_rfl, by kernel_rfl, by kernel_rfl, by kernel_rfl, by kernel_rfl, by kernel_rfl, by kernel_rfl, by kernel_rfl, by kernel_rfl⟩
theorem fy10_16 : OK16 fy10 := ⟨fy10_ok, by decide, fy10_g, fy10_l, fy10_s, fy10_x⟩
theorem fy15_ok : FOk fy15 := fok_of oky15
theorem fy15_g : chkG fy15 = true := by kernel_rfl
theorem fy15_l : chkL fy15 = true := by kernel_rfl
theorem fy15_s : chkShp fy15 = true := by kernel_rfl
theorem fy15_x : TX fy15 := ⟨"5:2,1", "(5:2,1", "(5:2,1)", "1 (5:2,1)", "1 (5:2,1", by kernel_rfl, by kernel_rfl, by kernel_rfl, by kernel_rfl, by kernel_rfl, by kernel_rfl, by kernel_rfl, by kernel_rfl, by kernel_rfl⟩
theorem fy15_16 : OK16 fy15 := ⟨fy15_ok, by decide, fy15_g, fy15_l, fy15_s, fy15_x⟩
theorem fy20_ok : FOk fy20 := fok_of oky20
theorem fy20_g : chkG fy20 = true := by kernel_rfl
theorem fy20_l : chkL fy20 = true := by kernel_rfl
theorem fy20_s : chkShp fy20 = true := by kernel_rfl
theorem fy20_x : TX fy20 := ⟨"5:4,3", "(5:4,3", "(5:4,3)", "1 (5:4,3)", "1 (5:4,3", by kernel_rfl, by kernel_rfl, by kernel_rfl, by kernel_rfl, by kernel_rfl, by kernel_rfl, by kernel_rfl, by kernel_rfl, by kernel_rfl⟩
theorem fy20_16 : OK16 fy20 := ⟨fy20_ok, by decide, fy20_g, fy20_l, fy20_s, fy20_x⟩
def fo32 : FD := fdA.getD 32 ⟨2, [], 0, 0, 0, 0⟩
theorem fo32_ok : FOk fo32 := fokA (List.mem_of_getElem? (i := 32) (by rfl))
theorem fo32_g : chkG fo32 = true := by kernel_rfl
theorem fo32_l : chkL fo32 = true := by kernel_rfl
theorem fo32_s : chkShp fo32 = true := by kernel_rfl
theorem fo32_x : TX fo32 := ⟨"11:1", "(11:1", "(11:1)", "1 (11:1)", "1 (11:1", by kernel_rfl, by kernel_rfl, by kernel_rfl, by kernel_rfl, by kernel_rfl, by kernel_rfl, by kernel_rfl, by kernel_rfl, by kernel_rfl⟩
theorem fo32_16 : OK16 fo32 := ⟨fo32_ok, by decide, fo32_g, fo32_l, fo32_s, fo32_x⟩
def fo37 : FD := fdA.getD 37 ⟨2, [], 0, 0, 0, 0⟩
theorem fo37_ok : FOk fo37 := fokA (List.mem_of_getElem? (i := 37) (by rfl))
theorem fo37_g : chkG fo37 = true := by kernel_rfl
theorem fo37_l : chkL fo37 = true := by kernel_rfl
theorem fo37_s : chkShp fo37 = true := by kernel_rfl
theorem fo37_x : TX fo37 := ⟨"11:7", "(11:7", "(11:7)", "1 (11:7)", "1 (11:7", by kernel_rfl, by kernel_rfl, by kernel_rfl, by kernel_rfl, by kernel_rfl, by kernel_rfl, by kernel_rfl, by kernel_rfl, by kernel_rfl⟩
theorem fo37_16 : OK16 fo37 := ⟨fo37_ok, by decide, fo37_g, fo37_l, fo37_s, fo37_x⟩
theorem fy5_ok : FOk fy5 := fok_of oky5
theorem fy5_g : chkG fy5 = true := by kernel_rfl
theorem fy5_l : chkL fy5 = true := by kernel_rfl
theorem fy5_s : chkShp fy5 = true := by kernel_rfl
theorem fy5_x : TX fy5 := ⟨"3:2,2", "(3:2,2", "(3:2,2)", "1 (3:2,2)", "1 (3:2,2", by kernel_rfl, by kernel_rfl, by kernel_rfl, by kernel_rfl, by kernel_rfl, by kernel_rfl, by kernel_rfl, by kernel_rfl, by kernel_rfl⟩
theorem fy5_16 : OK16 fy5 := ⟨fy5_ok, by decide, fy5_g, fy5_l, fy5_s, fy5_x⟩
def fo27 : FD := fdA.getD 27 ⟨2, [], 0, 0, 0, 0⟩
theorem fo27_ok : FOk fo27 := fokA (List.mem_of_getElem? (i := 27) (by rfl))
theorem fo27_g : chkG fo27 = true := by kernel_rfl
theorem fo27_l : chkL fo27 = true := by kernel_rfl
theorem fo27_s : chkShp fo27 = true := by kernel_rfl
theorem fo27_x : TX fo27 := ⟨"7:3", "(7:3", "(7:3)", "1 (7:3)", "1 (7:3", by kernel_rfl, by kernel_rfl, by kernel_rfl, by kernel_rfl, by kernel_rfl, by kernel_rfl, by kernel_rfl, by kernel_rfl, by kernel_rfl⟩
theorem fo27_16 : OK16 fo27 := ⟨fo27_ok, by decide, fo27_g, fo27_l, fo27_s, fo27_x⟩
def fo13 : FD := fdA.getD 13 ⟨2, [], 0, 0, 0, 0⟩
theorem fo13_ok : FOk fo13 := fokA (List.mem_of_getElem? (i := 13) (by rfl))
theorem fo13_g : chkG fo13 = true := by kernel_rfl
theorem fo13_l : chkL fo13 = true := by kernel_rfl
theorem fo13_s : chkShp fo13 = true := by kernel_rfl
theorem fo13_x : TX fo13 := ⟨"5:2", "(5:2", "(5:2)", "1 (5:2)", "1 (5:2", by kernel_rfl, by kernel_rfl, by kernel_rfl, by kernel_rfl, by kernel_rfl, by kernel_rfl, by kernel_rfl, by kernel_rfl, by kernel_rfl⟩
theorem fo13_16 : OK16 fo13 := ⟨fo13_ok, by decide, fo13_g, fo13_l, fo13_s, fo13_x⟩
def fo20 : FD := fdA.getD 20 ⟨2, [], 0, 0, 0, 0⟩
theorem fo20_ok : FOk fo20 := fokA (List.mem_of_getElem? (i := 20) (by rfl))
theorem fo20_g : chkG fo20 = true := by kernel_rfl
theorem fo20_l : chkL fo20 = true := by kernel_rfl
theorem fo20_s : chkShp fo20 = true := by kernel_rfl
theorem fo20_x : TX fo20 := ⟨"3:2", "(3:2", "(3:2)", "1 (3:2)", "1 (3:2", by kernel_rfl, by kernel_rfl, by kernel_rfl, by kernel_rfl, by kernel_rfl, by kernel_rfl, by kernel_rfl, by kernel_rfl, by kernel_rfl⟩
theorem fo20_16 : OK16 fo20 := ⟨fo20_ok, by decide, fo20_g, fo20_l, fo20_s, fo20_x⟩
end Pf
namespace Pf
open PySem PySem.Spec PyProof.Rows L2
/-! ### all rings that a law may pick -/
def digs (p : Nat) : Nat → List (List Int)
  | 0 => [[]]
  | n + 1 => (digs p n).flatMap fun l => (List.range p).map fun c => Int.ofNat c :: l
theorem digs_mem (p : Nat) : ∀ (n : Nat) (l : List Int), l.length = n → (∀ c ∈ l, 0 ≤ c ∧ c < p) → l ∈ digs p n
  | 0, [], _, _ => by simp [digs]
  | 0, _ :: _, h, _ => by simp at h
  | n + 1, [], h, _ => by simp at h
  | n + 1, c :: l, h, k => by
    unfold digs
    rw [List.mem_flatMap]
    refine ⟨l, digs_mem p n l (by simpa using h) fun d hd => k d (by simp [hd]), ?_⟩
    rw [List.mem_map]
    have hc := k c (by simp)
    refine ⟨c.toNat, List.mem_range.mpr (by omega), ?_⟩
    congr 1
    exact Int.toNat_of_nonneg hc.1
def allR : List (Int × List Int) := ringsL.flatMap fun r => (digs r.1.toNat r.2).map fun l => (r.1, l)
theorem allR_mem {p : Int} {lol : List Int} (h : (p, lol.length) ∈ ringsL) (hp : 0 ≤ p) (hl : ∀ c ∈ lol, 0 ≤ c ∧ c < p) : (p, lol) ∈ allR := by
  unfold allR
  rw [List.mem_flatMap]
  refine ⟨_, h, ?_⟩
  rw [List.mem_map]
  exact ⟨lol, digs_mem _ _ lol rfl fun c hc => ⟨(hl c hc).1, by have := (hl c hc).2; simp only; omega⟩, rfl⟩
end Pf
namespace Pf
open PySem PySem.Spec PyProof.Rows L2
def T16 : En → O := sSeq L16_3 (sSeq L16_4 L16_5)
theorem nf16_0 (ns : List Int) (s1 : Sl) : okT (T16 [.sc ns, s1, .va (rgD 2 [0, 0]), .no, .no, .no, .no, .no, .no, .no, .no, .no]) = true := by kernel_rfl
theorem nf16_6 (ns : List Int) (s1 : Sl) : okT (T16 [.sc ns, s1, .va (rgD 2 [0, 1, 1]), .no, .no, .no, .no, .no, .no, .no, .no, .no]) = true := by kernel_rfl
theorem nf16_12 (ns : List Int) (s1 : Sl) : okT (T16 [.sc ns, s1, .va (rgD 2 [0, 0, 1, 1]), .no, .no, .no, .no, .no, .no, .no, .no, .no]) = true := by kernel_rfl
theorem nf16_18 (ns : List Int) (s1 : Sl) : okT (T16 [.sc ns, s1, .va (rgD 2 [1, 0, 1, 0]), .no, .no, .no, .no, .no, .no, .no, .no, .no]) = true := by kernel_rfl
theorem nf16_24 (ns : List Int) (s1 : Sl) : okT (T16 [.sc ns, s1, .va (rgD 2 [0, 0, 0, 1, 0]), .no, .no, .no, .no, .no, .no, .no, .no, .no]) = true := by kernel_rfl
theorem nf16_30 (ns : List Int) (s1 : Sl) : okT (T16 [.sc ns, s1, .va (rgD 2 [0, 1, 0, 0, 0]), .no, .no, .no, .no, .no, .no, .no, .no, .no]) = true := by kernel_rfl
theorem nf16_36 (ns : List Int) (s1 : Sl) : okT (T16 [.sc ns, s1, .va (rgD 2 [0, 1, 1, 1, 0]), .no, .no, .no, .no, .no, .no, .no, .no, .no]) = true := by kernel_rfl
theorem nf16_42 (ns : List Int) (s1 : Sl) : okT (T16 [.sc ns, s1, .va (rgD 2 [1, 0, 1, 1, 0]), .no, .no, .no, .no, .no, .no, .no, .no, .no]) = true := by kernel_rfl
theorem nf16_48 (ns : List Int) (s1 : Sl) : okT (T16 [.sc ns, s1, .va (rgD 3 [0, 0]), .no, .no, .no, .no, .no, .no, .no, .no, .no]) = true := by kernel_rfl
theorem nf16_54 (ns : List Int) (s1 : Sl) : okT (T16 [.sc ns, s1, .va (rgD 3 [0, 0, 0]), .no, .no, .no, .no, .no, .no, .no, .no, .no]) = true := by kernel_rfl
theorem nf16_60 (ns : List Int) (s1 : Sl) : okT (T16 [.sc ns, s1, .va (rgD 3 [0, 2, 0]), .no, .no, .no, .no, .no, .no, .no, .no, .no]) = true := by kernel_rfl
theorem nf16_66 (ns : List Int) (s1 : Sl) : okT (T16 [.sc ns, s1, .va (rgD 3 [1, 1, 1]), .no, .no, .no, .no, .no, .no, .no, .no, .no]) = true := by kernel_rfl
theorem nf16_72 (ns : List Int) (s1 : Sl) : okT (T16 [.sc ns, s1, .va (rgD 3 [2, 2, 1]), .no, .no, .no, .no, .no, .no, .no, .no, .no]) = true := by kernel_rfl
theorem nf16_78 (ns : List Int) (s1 : Sl) : okT (T16 [.sc ns, s1, .va (rgD 5 [1, 0]), .no, .no, .no, .no, .no, .no, .no, .no, .no]) = true := by kernel_rfl
theorem nf16_84 (ns : List Int) (s1 : Sl) : okT (T16 [.sc ns, s1, .va (rgD 5 [3, 4]), .no, .no, .no, .no, .no, .no, .no, .no, .no]) = true := by kernel_rfl
end Pf
namespace Pf
open PySem PySem.Spec PyProof.Rows L2
theorem nf16_1 (ns : List Int) (s1 : Sl) : okT (T16 [.sc ns, s1, .va (rgD 2 [0, 1]), .no, .no, .no, .no, .no, .no, .no, .no, .no]) = true := by kernel_rfl
theorem nf16_7 (ns : List Int) (s1 : Sl) : okT (T16 [.sc ns, s1, .va (rgD 2 [1, 0, 0]), .no, .no, .no, .no, .no, .no, .no, .no, .no]) = true := by kernel_rfl
theorem nf16_13 (ns : List Int) (s1 : Sl) : okT (T16 [.sc ns, s1, .va (rgD 2 [0, 1, 0, 0]), .no, .no, .no, .no, .no, .no, .no, .no, .no]) = true := by kernel_rfl
theorem nf16_19 (ns : List Int) (s1 : Sl) : okT (T16 [.sc ns, s1, .va (rgD 2 [1, 0, 1, 1]), .no, .no, .no, .no, .no, .no, .no, .no, .no]) = true := by kernel_rfl
theorem nf16_25 (ns : List Int) (s1 : Sl) : okT (T16 [.sc ns, s1, .va (rgD 2 [0, 0, 0, 1, 1]), .no, .no, .no, .no, .no, .no, .no, .no, .no]) = true := by kernel_rfl
theorem nf16_31 (ns : List Int) (s1 : Sl) : okT (T16 [.sc ns, s1, .va (rgD 2 [0, 1, 0, 0, 1]), .no, .no, .no, .no, .no, .no, .no, .no, .no]) = true := by kernel_rfl
theorem nf16_37 (ns : List Int) (s1 : Sl) : okT (T16 [.sc ns, s1, .va (rgD 2 [0, 1, 1, 1, 1]), .no, .no, .no, .no, .no, .no, .no, .no, .no]) = true := by kernel_rfl
theorem nf16_43 (ns : List Int) (s1 : Sl) : okT (T16 [.sc ns, s1, .va (rgD 2 [1, 1, 0, 0, 0]), .no, .no, .no, .no, .no, .no, .no, .no, .no]) = true := by kernel_rfl
theorem nf16_49 (ns : List Int) (s1 : Sl) : okT (T16 [.sc ns, s1, .va (rgD 3 [0, 1]), .no, .no, .no, .no, .no, .no, .no, .no, .no]) = true := by kernel_rfl
theorem nf16_55 (ns : List Int) (s1 : Sl) : okT (T16 [.sc ns, s1, .va (rgD 3 [0, 0, 1]), .no, .no, .no, .no, .no, .no, .no, .no, .no]) = true := by kernel_rfl
theorem nf16_61 (ns : List Int) (s1 : Sl) : okT (T16 [.sc ns, s1, .va (rgD 3 [0, 2, 1]), .no, .no, .no, .no, .no, .no, .no, .no, .no]) = true := by kernel_rfl
theorem nf16_67 (ns : List Int) (s1 : Sl) : okT (T16 [.sc ns, s1, .va (rgD 3 [1, 2, 2]), .no, .no, .no, .no, .no, .no, .no, .no, .no]) = true := by kernel_rfl
theorem nf16_73 (ns : List Int) (s1 : Sl) : okT (T16 [.sc ns, s1, .va (rgD 5 [0, 0]), .no, .no, .no, .no, .no, .no, .no, .no, .no]) = true := by kernel_rfl
theorem nf16_79 (ns : List Int) (s1 : Sl) : okT (T16 [.sc ns, s1, .va (rgD 5 [1, 2]), .no, .no, .no, .no, .no, .no, .no, .no, .no]) = true := by kernel_rfl
theorem nf16_85 (ns : List Int) (s1 : Sl) : okT (T16 [.sc ns, s1, .va (rgD 5 [4, 0]), .no, .no, .no, .no, .no, .no, .no, .no, .no]) = true := by kernel_rfl
end Pf
namespace Pf
open PySem PySem.Spec PyProof.Rows L2
theorem nf16_2 (ns : List Int) (s1 : Sl) : okT (T16 [.sc ns, s1, .va (rgD 2 [1, 0]), .no, .no, .no, .no, .no, .no, .no, .no, .no]) = true := by kernel_rfl
theorem nf16_8 (ns : List Int) (s1 : Sl) : okT (T16 [.sc ns, s1, .va (rgD 2 [1, 1, 1]), .no, .no, .no, .no, .no, .no, .no, .no, .no]) = true := by kernel_rfl
theorem nf16_14 (ns : List Int) (s1 : Sl) : okT (T16 [.sc ns, s1, .va (rgD 2 [0, 1, 0, 1]), .no, .no, .no, .no, .no, .no, .no, .no, .no]) = true := by kernel_rfl
theorem nf16_20 (ns : List Int) (s1 : Sl) : okT (T16 [.sc ns, s1, .va (rgD 2 [1, 1, 0, 1]), .no, .no, .no, .no, .no, .no, .no, .no, .no]) = true := by kernel_rfl
theorem nf16_26 (ns : List Int) (s1 : Sl) : okT (T16 [.sc ns, s1, .va (rgD 2 [0, 0, 1, 0, 0]), .no, .no, .no, .no, .no, .no, .no, .no, .no]) = true := by kernel_rfl
theorem nf16_32 (ns : List Int) (s1 : Sl) : okT (T16 [.sc ns, s1, .va (rgD 2 [0, 1, 0, 1, 0]), .no, .no, .no, .no, .no, .no, .no, .no, .no]) = true := by kernel_rfl
theorem nf16_38 (ns : List Int) (s1 : Sl) : okT (T16 [.sc ns, s1, .va (rgD 2 [1, 0, 0, 0, 0]), .no, .no, .no, .no, .no, .no, .no, .no, .no]) = true := by kernel_rfl
theorem nf16_44 (ns : List Int) (s1 : Sl) : okT (T16 [.sc ns, s1, .va (rgD 2 [1, 1, 0, 0, 1]), .no, .no, .no, .no, .no, .no, .no, .no, .no]) = true := by kernel_rfl
theorem nf16_50 (ns : List Int) (s1 : Sl) : okT (T16 [.sc ns, s1, .va (rgD 3 [0, 2]), .no, .no, .no, .no, .no, .no, .no, .no, .no]) = true := by kernel_rfl
theorem nf16_56 (ns : List Int) (s1 : Sl) : okT (T16 [.sc ns, s1, .va (rgD 3 [0, 0, 2]), .no, .no, .no, .no, .no, .no, .no, .no, .no]) = true := by kernel_rfl
theorem nf16_62 (ns : List Int) (s1 : Sl) : okT (T16 [.sc ns, s1, .va (rgD 3 [0, 2, 2]), .no, .no, .no, .no, .no, .no, .no, .no, .no]) = true := by kernel_rfl
theorem nf16_68 (ns : List Int) (s1 : Sl) : okT (T16 [.sc ns, s1, .va (rgD 3 [2, 0, 0]), .no, .no, .no, .no, .no, .no, .no, .no, .no]) = true := by kernel_rfl
theorem nf16_74 (ns : List Int) (s1 : Sl) : okT (T16 [.sc ns, s1, .va (rgD 5 [0, 1]), .no, .no, .no, .no, .no, .no, .no, .no, .no]) = true := by kernel_rfl
theorem nf16_80 (ns : List Int) (s1 : Sl) : okT (T16 [.sc ns, s1, .va (rgD 5 [1, 3]), .no, .no, .no, .no, .no, .no, .no, .no, .no]) = true := by kernel_rfl
theorem nf16_86 (ns : List Int) (s1 : Sl) : okT (T16 [.sc ns, s1, .va (rgD 5 [4, 1]), .no, .no, .no, .no, .no, .no, .no, .no, .no]) = true := by kernel_rfl
end Pf
namespace Pf
open PySem PySem.Spec PyProof.Rows L2
theorem nf16_3 (ns : List Int) (s1 : Sl) : okT (T16 [.sc ns, s1, .va (rgD 2 [0, 0, 0]), .no, .no, .no, .no, .no, .no, .no, .no, .no]) = true := by kernel_rfl
theorem nf16_9 (ns : List Int) (s1 : Sl) : okT (T16 [.sc ns, s1, .va (rgD 2 [0, 0, 0, 0]), .no, .no, .no, .no, .no, .no, .no, .no, .no]) = true := by kernel_rfl
theorem nf16_15 (ns : List Int) (s1 : Sl) : okT (T16 [.sc ns, s1, .va (rgD 2 [0, 1, 1, 0]), .no, .no, .no, .no, .no, .no, .no, .no, .no]) = true := by kernel_rfl
theorem nf16_21 (ns : List Int) (s1 : Sl) : okT (T16 [.sc ns, s1, .va (rgD 2 [1, 1, 1, 0]), .no, .no, .no, .no, .no, .no, .no, .no, .no]) = true := by kernel_rfl
theorem nf16_27 (ns : List Int) (s1 : Sl) : okT (T16 [.sc ns, s1, .va (rgD 2 [0, 0, 1, 0, 1]), .no, .no, .no, .no, .no, .no, .no, .no, .no]) = true := by kernel_rfl
theorem nf16_33 (ns : List Int) (s1 : Sl) : okT (T16 [.sc ns, s1, .va (rgD 2 [0, 1, 0, 1, 1]), .no, .no, .no, .no, .no, .no, .no, .no, .no]) = true := by kernel_rfl
theorem nf16_39 (ns : List Int) (s1 : Sl) : okT (T16 [.sc ns, s1, .va (rgD 2 [1, 0, 0, 0, 1]), .no, .no, .no, .no, .no, .no, .no, .no, .no]) = true := by kernel_rfl
theorem nf16_45 (ns : List Int) (s1 : Sl) : okT (T16 [.sc ns, s1, .va (rgD 2 [1, 1, 0, 1, 0]), .no, .no, .no, .no, .no, .no, .no, .no, .no]) = true := by kernel_rfl
theorem nf16_51 (ns : List Int) (s1 : Sl) : okT (T16 [.sc ns, s1, .va (rgD 3 [1, 1]), .no, .no, .no, .no, .no, .no, .no, .no, .no]) = true := by kernel_rfl
theorem nf16_57 (ns : List Int) (s1 : Sl) : okT (T16 [.sc ns, s1, .va (rgD 3 [0, 1, 0]), .no, .no, .no, .no, .no, .no, .no, .no, .no]) = true := by kernel_rfl
theorem nf16_63 (ns : List Int) (s1 : Sl) : okT (T16 [.sc ns, s1, .va (rgD 3 [1, 0, 0]), .no, .no, .no, .no, .no, .no, .no, .no, .no]) = true := by kernel_rfl
theorem nf16_69 (ns : List Int) (s1 : Sl) : okT (T16 [.sc ns, s1, .va (rgD 3 [2, 0, 2]), .no, .no, .no, .no, .no, .no, .no, .no, .no]) = true := by kernel_rfl
theorem nf16_75 (ns : List Int) (s1 : Sl) : okT (T16 [.sc ns, s1, .va (rgD 5 [0, 2]), .no, .no, .no, .no, .no, .no, .no, .no, .no]) = true := by kernel_rfl
theorem nf16_81 (ns : List Int) (s1 : Sl) : okT (T16 [.sc ns, s1, .va (rgD 5 [2, 2]), .no, .no, .no, .no, .no, .no, .no, .no, .no]) = true := by kernel_rfl
theorem nf16_87 (ns : List Int) (s1 : Sl) : okT (T16 [.sc ns, s1, .va (rgD 5 [4, 4]), .no, .no, .no, .no, .no, .no, .no, .no, .no]) = true := by kernel_rfl
end Pf
namespace Pf
open PySem PySem.Spec PyProof.Rows L2
theorem nf16_4 (ns : List Int) (s1 : Sl) : okT (T16 [.sc ns, s1, .va (rgD 2 [0, 0, 1]), .no, .no, .no, .no, .no, .no, .no, .no, .no]) = true := by kernel_rfl
theorem nf16_10 (ns : List Int) (s1 : Sl) : okT (T16 [.sc ns, s1, .va (rgD 2 [0, 0, 0, 1]), .no, .no, .no, .no, .no, .no, .no, .no, .no]) = true := by kernel_rfl
theorem nf16_16 (ns : List Int) (s1 : Sl) : okT (T16 [.sc ns, s1, .va (rgD 2 [0, 1, 1, 1]), .no, .no, .no, .no, .no, .no, .no, .no, .no]) = true := by kernel_rfl
theorem nf16_22 (ns : List Int) (s1 : Sl) : okT (T16 [.sc ns, s1, .va (rgD 2 [0, 0, 0, 0, 0]), .no, .no, .no, .no, .no, .no, .no, .no, .no]) = true := by kernel_rfl
theorem nf16_28 (ns : List Int) (s1 : Sl) : okT (T16 [.sc ns, s1, .va (rgD 2 [0, 0, 1, 1, 0]), .no, .no, .no, .no, .no, .no, .no, .no, .no]) = true := by kernel_rfl
theorem nf16_34 (ns : List Int) (s1 : Sl) : okT (T16 [.sc ns, s1, .va (rgD 2 [0, 1, 1, 0, 0]), .no, .no, .no, .no, .no, .no, .no, .no, .no]) = true := by kernel_rfl
theorem nf16_40 (ns : List Int) (s1 : Sl) : okT (T16 [.sc ns, s1, .va (rgD 2 [1, 0, 0, 1, 1]), .no, .no, .no, .no, .no, .no, .no, .no, .no]) = true := by kernel_rfl
theorem nf16_46 (ns : List Int) (s1 : Sl) : okT (T16 [.sc ns, s1, .va (rgD 2 [1, 1, 1, 0, 0]), .no, .no, .no, .no, .no, .no, .no, .no, .no]) = true := by kernel_rfl
theorem nf16_52 (ns : List Int) (s1 : Sl) : okT (T16 [.sc ns, s1, .va (rgD 3 [1, 2]), .no, .no, .no, .no, .no, .no, .no, .no, .no]) = true := by kernel_rfl
theorem nf16_58 (ns : List Int) (s1 : Sl) : okT (T16 [.sc ns, s1, .va (rgD 3 [0, 1, 1]), .no, .no, .no, .no, .no, .no, .no, .no, .no]) = true := by kernel_rfl
theorem nf16_64 (ns : List Int) (s1 : Sl) : okT (T16 [.sc ns, s1, .va (rgD 3 [1, 0, 1]), .no, .no, .no, .no, .no, .no, .no, .no, .no]) = true := by kernel_rfl
theorem nf16_70 (ns : List Int) (s1 : Sl) : okT (T16 [.sc ns, s1, .va (rgD 3 [2, 1, 0]), .no, .no, .no, .no, .no, .no, .no, .no, .no]) = true := by kernel_rfl
theorem nf16_76 (ns : List Int) (s1 : Sl) : okT (T16 [.sc ns, s1, .va (rgD 5 [0, 3]), .no, .no, .no, .no, .no, .no, .no, .no, .no]) = true := by kernel_rfl
theorem nf16_82 (ns : List Int) (s1 : Sl) : okT (T16 [.sc ns, s1, .va (rgD 5 [2, 3]), .no, .no, .no, .no, .no, .no, .no, .no, .no]) = true := by kernel_rfl
end Pf
namespace Pf
open PySem PySem.Spec PyProof.Rows L2
theorem nf16_5 (ns : List Int) (s1 : Sl) : okT (T16 [.sc ns, s1, .va (rgD 2 [0, 1, 0]), .no, .no, .no, .no, .no, .no, .no, .no, .no]) = true := by kernel_rfl
theorem nf16_11 (ns : List Int) (s1 : Sl) : okT (T16 [.sc ns, s1, .va (rgD 2 [0, 0, 1, 0]), .no, .no, .no, .no, .no, .no, .no, .no, .no]) = true := by kernel_rfl
theorem nf16_17 (ns : List Int) (s1 : Sl) : okT (T16 [.sc ns, s1, .va (rgD 2 [1, 0, 0, 0]), .no, .no, .no, .no, .no, .no, .no, .no, .no]) = true := by kernel_rfl
theorem nf16_23 (ns : List Int) (s1 : Sl) : okT (T16 [.sc ns, s1, .va (rgD 2 [0, 0, 0, 0, 1]), .no, .no, .no, .no, .no, .no, .no, .no, .no]) = true := by kernel_rfl
theorem nf16_29 (ns : List Int) (s1 : Sl) : okT (T16 [.sc ns, s1, .va (rgD 2 [0, 0, 1, 1, 1]), .no, .no, .no, .no, .no, .no, .no, .no, .no]) = true := by kernel_rfl
theorem nf16_35 (ns : List Int) (s1 : Sl) : okT (T16 [.sc ns, s1, .va (rgD 2 [0, 1, 1, 0, 1]), .no, .no, .no, .no, .no, .no, .no, .no, .no]) = true := by kernel_rfl
theorem nf16_41 (ns : List Int) (s1 : Sl) : okT (T16 [.sc ns, s1, .va (rgD 2 [1, 0, 1, 0, 1]), .no, .no, .no, .no, .no, .no, .no, .no, .no]) = true := by kernel_rfl
theorem nf16_47 (ns : List Int) (s1 : Sl) : okT (T16 [.sc ns, s1, .va (rgD 2 [1, 1, 1, 1, 1]), .no, .no, .no, .no, .no, .no, .no, .no, .no]) = true := by kernel_rfl
theorem nf16_53 (ns : List Int) (s1 : Sl) : okT (T16 [.sc ns, s1, .va (rgD 3 [2, 0]), .no, .no, .no, .no, .no, .no, .no, .no, .no]) = true := by kernel_rfl
theorem nf16_59 (ns : List Int) (s1 : Sl) : okT (T16 [.sc ns, s1, .va (rgD 3 [0, 1, 2]), .no, .no, .no, .no, .no, .no, .no, .no, .no]) = true := by kernel_rfl
theorem nf16_65 (ns : List Int) (s1 : Sl) : okT (T16 [.sc ns, s1, .va (rgD 3 [1, 1, 0]), .no, .no, .no, .no, .no, .no, .no, .no, .no]) = true := by kernel_rfl
theorem nf16_71 (ns : List Int) (s1 : Sl) : okT (T16 [.sc ns, s1, .va (rgD 3 [2, 1, 2]), .no, .no, .no, .no, .no, .no, .no, .no, .no]) = true := by kernel_rfl
theorem nf16_77 (ns : List Int) (s1 : Sl) : okT (T16 [.sc ns, s1, .va (rgD 5 [0, 4]), .no, .no, .no, .no, .no, .no, .no, .no, .no]) = true := by kernel_rfl
theorem nf16_83 (ns : List Int) (s1 : Sl) : okT (T16 [.sc ns, s1, .va (rgD 5 [3, 1]), .no, .no, .no, .no, .no, .no, .no, .no, .no]) = true := by kernel_rfl
end Pf
namespace Pf
open PySem PySem.Spec PyProof.Rows L2
theorem field16 (ns : List Int) (hn : ns.length ≤ 63) (t : Nat) (h9 : t ≤ 100) {f : FD} (K : OK16 f) :
    (sSeq L16_3 (sSeq L16_4 (sSeq L16_5 (sSeq L16_6 (sSeq L16_7 (sSeq L16_8 (sSeq L16_9 (sSeq L16_10 (sSeq L16_11 (sSeq L16_12 (sSeq L16_13 (sSeq L16_14 L16_15))))))))))) [.sc ns, .ow false (z0 t), .va (fdD f), .no, .no, .no, .no, .no, .no, .no, .no, .no]).f = .ok (.bool true) := by
  obtain ⟨F, q32, hG, hL, hS, ⟨T, U, V, W, A, x1, x2, x3, x4, x5, x6, x7, x8, x9⟩⟩ := K
  have q2 := F.q2
  have gs := q_sub1 F
  have n1 : ∀ i : Int, gNe (.int i) (.int i) = some (.bool false) := fun i => gNe_self' rfl
  have fr : m_format_ring [fdD f] = .ok (.str T) := by
    show (g_format_ring [.va (fdD f)]).f = _
    unfold g_format_ring
    simp [sSeq, sDrop, sRet, eCall, Ar, aCons, aNil, eVar, R.bnd, R.o, fzAll, fz, q_check_ring F, x1, O.f]
  refine seq_f [.sc ns, .ow false (z0 t), .va (fdD f), .va (fdD f), .no, .no, .no, .no, .no, .no, .no, .no] (Eq.trans (v_setD (v_call (v_aCons (v_call (v_aCons (by rfl) (by rfl)) (by rfl) (by exact fr)) (by rfl)) (by rfl) (by exact x9))) (by rfl)) ?_
  refine seq_f [.sc ns, .ow false (z0 t), .va (fdD f), .va (fdD f), .no, .no, .no, .no, .no, .no, .no, .no] (Eq.trans (v_ifF (v_bTD (v_op2 (by rfl) (by rfl) (by rfl) (by rfl) (by exact gNe_self' (shaped_fd f))))) (by rfl)) ?_
  refine seq_f [.sc ns, .ow false (z0 t), .va (fdD f), .va (fdD f), .no, .no, .no, .no, .no, .no, .no, .no] (Eq.trans (v_ifF (v_bNot (c := true) (v_bTD (v_call (v_aCons (by rfl) (by rfl)) (by rfl) (by exact q_is_field F))))) (by rfl)) ?_
  refine seq_f [.sc ns, .ow false (z0 t), .va (fdD f), .va (fdD f), .no, .no, .va (.int f.q), .no, .no, .no, .no, .no] (Eq.trans (v_setD (v_call (v_aCons (by rfl) (by rfl)) (by rfl) (by exact q_size F))) (by rfl)) ?_
  unfold chkG at hG
  rw [nm_generators] at hG
  split at hG
  · rename_i ds hgen
    split at hG
    · rename_i l hnat
      obtain ⟨g1, g2⟩ := He.ba hG
      have g1 := Nat.blt_eq.mp g1
      obtain ⟨rfl, hlt⟩ := natsB_ok hnat
      obtain ⟨i, d, hd, ep⟩ := s_pick ns hn t (by omega) (nL l) (by rw [nL_len]; exact g1)
      unfold nL at hd
      rw [List.getElem?_map] at hd
      cases hq : l[i]? with
      | none => rw [hq] at hd; cases hd
      | some b =>
        rw [hq] at hd
        cases hd
        have hbm : b ∈ l := List.mem_of_getElem? hq
        have hb := hlt b hbm
        have hB := List.all_eq_true.mp g2 b hbm
        obtain ⟨b1, b2⟩ := He.ba hB
        have b2 := Nat.eq_of_beq_eq_true b2
        refine seq_f [.sc ns, .ow false (z0 (t + 1)), .va (fdD f), .va (fdD f), .no, .no, .va (.int f.q), .va (.int b), .no, .no, .no, .no] (Eq.trans (v_setD (v_draw (v_aCons (by rfl) (v_aCons (by rfl) (v_aCons (v_call (v_aCons (by rfl) (by rfl)) (by rfl) (by exact hgen)) (by rfl)))) (by rfl) (by rfl) (by rfl) (by exact ep))) (by rfl)) ?_
        refine seq_f (A16 ns (t + 1) f b [1] .no .no .no .no) (Eq.trans (v_mk (v_make (v_aCons (by rfl) (v_aCons (by rfl) (by rfl))) (by rfl) (by rfl) (by exact r_init F (x := 1) (by omega)))) (by rfl)) ?_
        obtain ⟨s4, s9, lp, l1, l2, l3⟩ := loop16 ns (t + 1) F q32 hS hb (f.q - 1) 0 [1] .no .no (by simp) rfl (by omega) (by simp; omega) (by simp) b1
        have la1 : la [1] = 1 := rfl
        rw [la1] at lp l1 l2 l3
        have ec : [1] ++ pthL f b (f.q - 1) 1 = 1 :: pthL f b (f.q - 1) 1 := rfl
        rw [ec] at lp l1 l2 l3
        have pl := pth_len f b (f.q - 1) 1
        generalize pthL f b (f.q - 1) 1 = tr at lp l1 l2 l3 pl b2
        have hne : (1 :: tr) ≠ [] := by simp
        refine seq_f (A16 ns (t + 1) f b (1 :: tr) s4 s9 .no .no) ?_ ?_
        · have el : L16_9 = sFor (lRng rng1 (aCons (eOp2 gSub (eVar 6) (eC (.int 1))) (aNil))) (gN 9) body16 := rfl
          rw [el]
          exact v_forR (v_lRng (v_aCons (v_op2 (by rfl) (by rfl) (by rfl) (by rfl) (by exact gs)) (by rfl)) (by rfl) (by exact rngR_ok (n := f.q - 1) (by omega))) (by exact lp)
        refine seq_f (A16 ns (t + 1) f b (1 :: tr) s4 s9 .no .no) ?_ ?_
        · have fl : fitLen (.int (((1 :: tr).length - 1 : Nat) : Int)) = true := by
            show inL _ = true
            unfold inL
            rw [Int.natAbs_natCast, decide_eq_true (by omega)]
            exact Nat.blt_eq.mpr (by simp; omega)
          have rl := r_len f (1 :: tr) 1
          have re := r_element f hne 1
          rw [l1] at re
          have ln : ((1 :: tr).length - 1 : Nat) = f.q - 1 := by simp; exact pl
          rw [ln] at rl fl
          have ls := fun (e : En) (x : Vd) (fo : M Vd) (h1 : fo e = .ok x e) (h2 : rd e x = some (.list (nL (1 :: tr)))) => v_lenSet h1 h2 (by simp; omega)
          rw [b2] at ls
          unfold L16_10
          exact Eq.trans (v_ifF (v_bOrF (v_bTD (v_op2 (v_mth (by rfl) (by rfl) (by rfl) (by rfl) (by rfl) (by exact re) (by rfl)) (by rfl) (by rfl) (by rfl) (by exact n1 _)))
            (v_bOrF (v_bTD (v_op2 (ls _ _ _ (v_mth (by rfl) (by rfl) (by rfl) (by rfl) (by rfl) (by exact r_path f (1 :: tr) 1) (by rfl)) (by rfl)) (v_op2 (by rfl) (by rfl) (by rfl) (by rfl) (by exact gs)) (by rfl) (by rfl) (by exact n1 _)))
              (v_bTD (v_op2 (v_spc (by rfl) (by rfl) (by rfl) (by exact rl) (by rfl) (by exact fl)) (v_op2 (by rfl) (by rfl) (by rfl) (by rfl) (by exact gs)) (by rfl) (by rfl) (by exact n1 _)))))) (by rfl)
        obtain ⟨j, d, hd, ep2⟩ := s_pick ns hn (t + 1) (by omega) (nL (1 :: tr)) (by simp [nL_len])
        unfold nL at hd
        rw [List.getElem?_map] at hd
        cases hq2 : (1 :: tr)[j]? with
        | none => rw [hq2] at hd; cases hd
        | some x =>
          rw [hq2] at hd
          cases hd
          have hxm : x ∈ 1 :: tr := List.mem_of_getElem? hq2
          have hx := l2 x hxm
          have hx0 := l3 x hxm
          refine seq_f (A16 ns (t + 2) f b (1 :: tr) (.va (.int x)) s9 .no .no) (Eq.trans (v_setD (v_draw (v_aCons (by rfl) (v_aCons (by rfl) (v_aCons (v_mth (by rfl) (by rfl) (by rfl) (by rfl) (by rfl) (by exact r_path f (1 :: tr) 1) (by rfl)) (by rfl)))) (by rfl) (by rfl) (by rfl) (by exact ep2))) (by rfl)) ?_
          have hl : lowC f (x - 1 + 1) = true := allB_ok hL (x - 1) (by omega)
          rw [show x - 1 + 1 = x by omega] at hl
          unfold lowC at hl
          rw [nm_least_polynomial, nm_conjugates] at hl
          split at hl
          · rename_i cs ds h1 h2
            split at hl
            · rename_i lo hlo
              obtain ⟨rfl, hc⟩ := natsB_ok hlo
              obtain ⟨k1, hl⟩ := He.ba hl
              obtain ⟨k2, hl⟩ := He.ba hl
              obtain ⟨k3, k4⟩ := He.ba hl
              have k1 := Nat.eq_of_beq_eq_true k1
              have k2 := Nat.eq_of_beq_eq_true k2
              have sv := s_value F hx hc (Nat.le_of_ble_eq_true k3) (Nat.le_of_ble_eq_true k4)
              rw [k1] at sv
              have gl : gLen [.tuple (nL lo)] = some (.int (lo.length : Nat)) := by show some (PyData.int ((nL lo).length : Nat)) = _; rw [nL_len]
              have ga : gAdd (.int (ds.length : Nat)) (.int 1) = some (.int (lo.length : Nat)) := by rw [gAdd_ok, k2]; rfl
              refine seq_f (A16 ns (t + 2) f b (1 :: tr) (.va (.int x)) s9 (.va (.tuple (nL lo))) .no) (Eq.trans (v_setD (v_call (v_aCons (by rfl) (v_aCons (by rfl) (by rfl))) (by rfl) (by exact h1))) (by rfl)) ?_
              refine seq_f (A16 ns (t + 2) f b (1 :: tr) (.va (.int x)) s9 (.va (.tuple (nL lo))) .no) ?_ ?_
              · unfold L16_13
                exact Eq.trans (v_ifF (v_bOrF (v_bTD (v_op2 (v_call (v_aCons (by rfl) (v_aCons (by rfl) (v_aCons (by rfl) (by rfl)))) (by rfl) (by exact sv)) (by rfl) (by rfl) (by rfl) (by exact n1 _)))
                  (v_bTD (v_op2 (v_eB (v_aCons (by rfl) (by rfl)) (by rfl) (by exact gl)) (v_op2 (v_eB (v_aCons (v_call (v_aCons (by rfl) (v_aCons (by rfl) (by rfl))) (by rfl) (by exact h2)) (by rfl)) (by rfl) (by rfl)) (by rfl) (by rfl) (by rfl) (by exact ga)) (by rfl) (by rfl) (by exact n1 _))))) (by rfl)
              obtain ⟨s11, ul⟩ := undo_loop ns (t + 2) f b (.va (.int x)) s9 (.va (.tuple (nL lo))) (f.q - 1) 0 tr .no pl
              refine seq_f (A16 ns (t + 2) f b [1] (.va (.int x)) s9 (.va (.tuple (nL lo))) s11) ?_ ?_
              · have el : L16_14 = sFor (lRng rng1 (aCons (eOp2 gSub (eVar 6) (eC (.int 1))) (aNil))) (gN 11) undoB := rfl
                rw [el]
                exact v_forR (v_lRng (v_aCons (v_op2 (by rfl) (by rfl) (by rfl) (by rfl) (by exact gs)) (by rfl)) (by rfl) (by exact rngR_ok (n := f.q - 1) (by omega))) (by exact ul)
              have sg := str_gen (f := f) (tr := [1]) (by simp) 1 (z := 1) rfl (S := "1") (by kernel_rfl) x1 x2 x3 x4 x5
              have ft : fitStr (.str W) = true := by rfl
              unfold L16_15
              rw [v_ret (v_andT (v_op2 (v_mth (by rfl) (by rfl) (by rfl) (by rfl) (by rfl) (by exact r_path f [1] 1) (by rfl)) (v_eN (v_nLst (v_aCons (by rfl) (by rfl)) (by rfl) (by rfl))) (by rfl) (by rfl) (by exact gEq_self' (shaped_nL' [1])))
                (v_op2 (v_spc (by rfl) (by rfl) (by rfl) (by exact sg) (by rfl) (by exact ft)) (v_op2 (v_op2 (by rfl) (v_call (v_aCons (by rfl) (by rfl)) (by rfl) (by exact fr)) (by rfl) (by rfl) (by exact x6)) (by rfl) (by rfl) (by rfl) (by exact x7)) (by rfl) (by rfl) (by exact x8))) (by rfl)]
              rfl
            · cases hl
          · cases hl
    · cases hG
  · cases hG
theorem nof16 (ns : List Int) (s1 : Sl) {d : D} (h : okT (T16 [.sc ns, s1, .va d, .no, .no, .no, .no, .no, .no, .no, .no, .no]) = true) (g : En → O) : (sSeq L16_3 (sSeq L16_4 (sSeq L16_5 g)) [.sc ns, s1, .va d, .no, .no, .no, .no, .no, .no, .no, .no, .no]).f = .ok (.bool true) := by
  rw [seq3]
  show (sSeq T16 g _).f = _
  unfold sSeq
  cases hT : T16 [.sc ns, s1, .va d, .no, .no, .no, .no, .no, .no, .no, .no, .no] with
  | rt r e =>
    rw [hT] at h
    exact okT_ok h
  | _ => rw [hT] at h; cases h
def Good16 (d : D) : Prop := (∃ f, OK16 f ∧ d = fdD f) ∨ ∀ (ns : List Int) (s1 : Sl), okT (T16 [.sc ns, s1, .va d, .no, .no, .no, .no, .no, .no, .no, .no, .no]) = true
theorem all16 : ∀ r ∈ allR, Good16 (rgD r.1 r.2) := by
  have e : allR = [(2, [0]), (2, [1]), (2, [0, 0]), (2, [1, 0]), (2, [0, 1]), (2, [1, 1]), (2, [0, 0, 0]), (2, [1, 0, 0]), (2, [0, 1, 0]), (2, [1, 1, 0]), (2, [0, 0, 1]), (2, [1, 0, 1]), (2, [0, 1, 1]), (2, [1, 1, 1]), (2, [0, 0, 0, 0]), (2, [1, 0, 0, 0]), (2, [0, 1, 0, 0]), (2, [1, 1, 0, 0]), (2, [0, 0, 1, 0]), (2, [1, 0, 1, 0]), (2, [0, 1, 1, 0]), (2, [1, 1, 1, 0]), (2, [0, 0, 0, 1]), (2, [1, 0, 0, 1]), (2, [0, 1, 0, 1]), (2, [1, 1, 0, 1]), (2, [0, 0, 1, 1]), (2, [1, 0, 1, 1]), (2, [0, 1, 1, 1]), (2, [1, 1, 1, 1]), (2, [0, 0, 0, 0, 0]), (2, [1, 0, 0, 0, 0]), (2, [0, 1, 0, 0, 0]), (2, [1, 1, 0, 0, 0]), (2, [0, 0, 1, 0, 0]), (2, [1, 0, 1, 0, 0]), (2, [0, 1, 1, 0, 0]), (2, [1, 1, 1, 0, 0]), (2, [0, 0, 0, 1, 0]), (2, [1, 0, 0, 1, 0]), (2, [0, 1, 0, 1, 0]), (2, [1, 1, 0, 1, 0]), (2, [0, 0, 1, 1, 0]), (2, [1, 0, 1, 1, 0]), (2, [0, 1, 1, 1, 0]), (2, [1, 1, 1, 1, 0]), (2, [0, 0, 0, 0, 1]), (2, [1, 0, 0, 0, 1]), (2, [0, 1, 0, 0, 1]), (2, [1, 1, 0, 0, 1]), (2, [0, 0, 1, 0, 1]), (2, [1, 0, 1, 0, 1]), (2, [0, 1, 1, 0, 1]), (2, [1, 1, 1, 0, 1]), (2, [0, 0, 0, 1, 1]), (2, [1, 0, 0, 1, 1]), (2, [0, 1, 0, 1, 1]), (2, [1, 1, 0, 1, 1]), (2, [0, 0, 1, 1, 1]), (2, [1, 0, 1, 1, 1]), (2, [0, 1, 1, 1, 1]), (2, [1, 1, 1, 1, 1]), (3, [0]), (3, [1]), (3, [2]), (3, [0, 0]), (3, [1, 0]), (3, [2, 0]), (3, [0, 1]), (3, [1, 1]), (3, [2, 1]), (3, [0, 2]), (3, [1, 2]), (3, [2, 2]), (3, [0, 0, 0]), (3, [1, 0, 0]), (3, [2, 0, 0]), (3, [0, 1, 0]), (3, [1, 1, 0]), (3, [2, 1, 0]), (3, [0, 2, 0]), (3, [1, 2, 0]), (3, [2, 2, 0]), (3, [0, 0, 1]), (3, [1, 0, 1]), (3, [2, 0, 1]), (3, [0, 1, 1]), (3, [1, 1, 1]), (3, [2, 1, 1]), (3, [0, 2, 1]), (3, [1, 2, 1]), (3, [2, 2, 1]), (3, [0, 0, 2]), (3, [1, 0, 2]), (3, [2, 0, 2]), (3, [0, 1, 2]), (3, [1, 1, 2]), (3, [2, 1, 2]), (3, [0, 2, 2]), (3, [1, 2, 2]), (3, [2, 2, 2]), (5, [0]), (5, [1]), (5, [2]), (5, [3]), (5, [4]), (5, [0, 0]), (5, [1, 0]), (5, [2, 0]), (5, [3, 0]), (5, [4, 0]), (5, [0, 1]), (5, [1, 1]), (5, [2, 1]), (5, [3, 1]), (5, [4, 1]), (5, [0, 2]), (5, [1, 2]), (5, [2, 2]), (5, [3, 2]), (5, [4, 2]), (5, [0, 3]), (5, [1, 3]), (5, [2, 3]), (5, [3, 3]), (5, [4, 3]), (5, [0, 4]), (5, [1, 4]), (5, [2, 4]), (5, [3, 4]), (5, [4, 4]), (7, [0]), (7, [1]), (7, [2]), (7, [3]), (7, [4]), (7, [5]), (7, [6]), (11, [0]), (11, [1]), (11, [2]), (11, [3]), (11, [4]), (11, [5]), (11, [6]), (11, [7]), (11, [8]), (11, [9]), (11, [10])] := by kernel_rfl
  rw [e]
  intro r hr
  simp only [List.mem_cons, List.not_mem_nil, or_false] at hr
  rcases hr with rfl | rfl | rfl | rfl | rfl | rfl | rfl | rfl | rfl | rfl | rfl | rfl | rfl | rfl | rfl | rfl | rfl | rfl | rfl | rfl | rfl | rfl | rfl | rfl | rfl | rfl | rfl | rfl | rfl | rfl | rfl | rfl | rfl | rfl | rfl | rfl | rfl | rfl | rfl | rfl | rfl | rfl | rfl | rfl | rfl | rfl | rfl | rfl | rfl | rfl | rfl | rfl | rfl | rfl | rfl | rfl | rfl | rfl | rfl | rfl | rfl | rfl | rfl | rfl | rfl | rfl | rfl | rfl | rfl | rfl | rfl | rfl | rfl | rfl | rfl | rfl | rfl | rfl | rfl | rfl | rfl | rfl | rfl | rfl | rfl | rfl | rfl | rfl | rfl | rfl | rfl | rfl | rfl | rfl | rfl | rfl | rfl | rfl | rfl | rfl | rfl | rfl | rfl | rfl | rfl | rfl | rfl | rfl | rfl | rfl | rfl | rfl | rfl | rfl | rfl | rfl | rfl | rfl | rfl | rfl | rfl | rfl | rfl | rfl | rfl | rfl | rfl | rfl | rfl | rfl | rfl | rfl | rfl | rfl | rfl | rfl | rfl | rfl | rfl | rfl | rfl | rfl | rfl | rfl | rfl | rfl | rfl | rfl | rfl
  · exact .inl ⟨fo0, fo0_16, by rfl⟩
  · exact .inl ⟨fo1, fo1_16, by rfl⟩
  · exact .inr nf16_0
  · exact .inr nf16_2
  · exact .inr nf16_1
  · exact .inl ⟨fo2, fo2_16, by rfl⟩
  · exact .inr nf16_3
  · exact .inr nf16_7
  · exact .inr nf16_5
  · exact .inl ⟨fo3, fo3_16, by rfl⟩
  · exact .inr nf16_4
  · exact .inl ⟨fo4, fo4_16, by rfl⟩
  · exact .inr nf16_6
  · exact .inr nf16_8
  · exact .inr nf16_9
  · exact .inr nf16_17
  · exact .inr nf16_13
  · exact .inl ⟨fo5, fo5_16, by rfl⟩
  · exact .inr nf16_11
  · exact .inr nf16_18
  · exact .inr nf16_15
  · exact .inr nf16_21
  · exact .inr nf16_10
  · exact .inl ⟨fo6, fo6_16, by rfl⟩
  · exact .inr nf16_14
  · exact .inr nf16_20
  · exact .inr nf16_12
  · exact .inr nf16_19
  · exact .inr nf16_16
  · exact .inl ⟨fo7, fo7_16, by rfl⟩
  · exact .inr nf16_22
  · exact .inr nf16_38
  · exact .inr nf16_30
  · exact .inr nf16_43
  · exact .inr nf16_26
  · exact .inl ⟨fo8, fo8_16, by rfl⟩
  · exact .inr nf16_34
  · exact .inr nf16_46
  · exact .inr nf16_24
  · exact .inl ⟨fy0, fy0_16, by rfl⟩
  · exact .inr nf16_32
  · exact .inr nf16_45
  · exact .inr nf16_28
  · exact .inr nf16_42
  · exact .inr nf16_36
  · exact .inl ⟨fy4, fy4_16, by rfl⟩
  · exact .inr nf16_23
  · exact .inr nf16_39
  · exact .inr nf16_31
  · exact .inr nf16_44
  · exact .inr nf16_27
  · exact .inr nf16_41
  · exact .inr nf16_35
  · exact .inl ⟨fy3, fy3_16, by rfl⟩
  · exact .inr nf16_25
  · exact .inr nf16_40
  · exact .inr nf16_33
  · exact .inl ⟨fy2, fy2_16, by rfl⟩
  · exact .inr nf16_29
  · exact .inl ⟨fy1, fy1_16, by rfl⟩
  · exact .inr nf16_37
  · exact .inr nf16_47
  · exact .inl ⟨fo19, fo19_16, by rfl⟩
  · exact .inl ⟨fo9, fo9_16, by rfl⟩
  · exact .inl ⟨fo20, fo20_16, by rfl⟩
  · exact .inr nf16_48
  · exact .inl ⟨fo10, fo10_16, by rfl⟩
  · exact .inr nf16_53
  · exact .inr nf16_49
  · exact .inr nf16_51
  · exact .inl ⟨fo11, fo11_16, by rfl⟩
  · exact .inr nf16_50
  · exact .inr nf16_52
  · exact .inl ⟨fy5, fy5_16, by rfl⟩
  · exact .inr nf16_54
  · exact .inr nf16_63
  · exact .inr nf16_68
  · exact .inr nf16_57
  · exact .inr nf16_65
  · exact .inr nf16_70
  · exact .inr nf16_60
  · exact .inl ⟨fo12, fo12_16, by rfl⟩
  · exact .inl ⟨fy11, fy11_16, by rfl⟩
  · exact .inr nf16_55
  · exact .inr nf16_64
  · exact .inl ⟨fy9, fy9_16, by rfl⟩
  · exact .inr nf16_58
  · exact .inr nf16_66
  · exact .inl ⟨fy10, fy10_16, by rfl⟩
  · exact .inr nf16_61
  · exact .inl ⟨fy8, fy8_16, by rfl⟩
  · exact .inr nf16_72
  · exact .inr nf16_56
  · exact .inl ⟨fy6, fy6_16, by rfl⟩
  · exact .inr nf16_69
  · exact .inr nf16_59
  · exact .inl ⟨fy7, fy7_16, by rfl⟩
  · exact .inr nf16_71
  · exact .inr nf16_62
  · exact .inr nf16_67
  · exact .inl ⟨fy12, fy12_16, by rfl⟩
  · exact .inl ⟨fo21, fo21_16, by rfl⟩
  · exact .inl ⟨fo22, fo22_16, by rfl⟩
  · exact .inl ⟨fo13, fo13_16, by rfl⟩
  · exact .inl ⟨fo23, fo23_16, by rfl⟩
  · exact .inl ⟨fo24, fo24_16, by rfl⟩
  · exact .inr nf16_73
  · exact .inr nf16_78
  · exact .inl ⟨fo14, fo14_16, by rfl⟩
  · exact .inl ⟨fo15, fo15_16, by rfl⟩
  · exact .inr nf16_85
  · exact .inr nf16_74
  · exact .inl ⟨fy13, fy13_16, by rfl⟩
  · exact .inl ⟨fy15, fy15_16, by rfl⟩
  · exact .inr nf16_83
  · exact .inr nf16_86
  · exact .inr nf16_75
  · exact .inr nf16_79
  · exact .inr nf16_81
  · exact .inl ⟨fy17, fy17_16, by rfl⟩
  · exact .inl ⟨fy19, fy19_16, by rfl⟩
  · exact .inr nf16_76
  · exact .inr nf16_80
  · exact .inr nf16_82
  · exact .inl ⟨fy18, fy18_16, by rfl⟩
  · exact .inl ⟨fy20, fy20_16, by rfl⟩
  · exact .inr nf16_77
  · exact .inl ⟨fy14, fy14_16, by rfl⟩
  · exact .inl ⟨fy16, fy16_16, by rfl⟩
  · exact .inr nf16_84
  · exact .inr nf16_87
  · exact .inl ⟨fo16, fo16_16, by rfl⟩
  · exact .inl ⟨fo25, fo25_16, by rfl⟩
  · exact .inl ⟨fo26, fo26_16, by rfl⟩
  · exact .inl ⟨fo27, fo27_16, by rfl⟩
  · exact .inl ⟨fo28, fo28_16, by rfl⟩
  · exact .inl ⟨fo29, fo29_16, by rfl⟩
  · exact .inl ⟨fo30, fo30_16, by rfl⟩
  · exact .inl ⟨fo31, fo31_16, by rfl⟩
  · exact .inl ⟨fo32, fo32_16, by rfl⟩
  · exact .inl ⟨fo33, fo33_16, by rfl⟩
  · exact .inl ⟨fo34, fo34_16, by rfl⟩
  · exact .inl ⟨fo17, fo17_16, by rfl⟩
  · exact .inl ⟨fo35, fo35_16, by rfl⟩
  · exact .inl ⟨fo36, fo36_16, by rfl⟩
  · exact .inl ⟨fo37, fo37_16, by rfl⟩
  · exact .inl ⟨fo38, fo38_16, by rfl⟩
  · exact .inl ⟨fo39, fo39_16, by rfl⟩
  · exact .inl ⟨fo40, fo40_16, by rfl⟩
theorem fld16 : ∀ i, i < 19 → Good16 (fdD (fdN i))
  | 0, _ => .inl ⟨fo0, fo0_16, by rfl⟩
  | 1, _ => .inl ⟨fo1, fo1_16, by rfl⟩
  | 2, _ => .inl ⟨fo2, fo2_16, by rfl⟩
  | 3, _ => .inl ⟨fo3, fo3_16, by rfl⟩
  | 4, _ => .inl ⟨fo4, fo4_16, by rfl⟩
  | 5, _ => .inl ⟨fo5, fo5_16, by rfl⟩
  | 6, _ => .inl ⟨fo6, fo6_16, by rfl⟩
  | 7, _ => .inl ⟨fo7, fo7_16, by rfl⟩
  | 8, _ => .inl ⟨fo8, fo8_16, by rfl⟩
  | 9, _ => .inl ⟨fo9, fo9_16, by rfl⟩
  | 10, _ => .inl ⟨fo10, fo10_16, by rfl⟩
  | 11, _ => .inl ⟨fo11, fo11_16, by rfl⟩
  | 12, _ => .inl ⟨fo12, fo12_16, by rfl⟩
  | 13, _ => .inl ⟨fo13, fo13_16, by rfl⟩
  | 14, _ => .inl ⟨fo14, fo14_16, by rfl⟩
  | 15, _ => .inl ⟨fo15, fo15_16, by rfl⟩
  | 16, _ => .inl ⟨fo16, fo16_16, by rfl⟩
  | 17, _ => .inl ⟨fo17, fo17_16, by rfl⟩
  | 18, _ => .inl ⟨fo18, fo18_16, by rfl⟩
  | n + 19, h => by omega
theorem tail16 (ns : List Int) (hn : ns.length ≤ 63) (t : Nat) (h9 : t ≤ 100) {d : D} (h : Good16 d) :
    (sSeq L16_3 (sSeq L16_4 (sSeq L16_5 (sSeq L16_6 (sSeq L16_7 (sSeq L16_8 (sSeq L16_9 (sSeq L16_10 (sSeq L16_11 (sSeq L16_12 (sSeq L16_13 (sSeq L16_14 L16_15))))))))))) [.sc ns, .ow false (z0 t), .va d, .no, .no, .no, .no, .no, .no, .no, .no, .no]).f = .ok (.bool true) := by
  rcases h with ⟨f, K, rfl⟩ | h
  · exact field16 ns hn t h9 K
  · exact nof16 ns _ (h ns _) _
theorem main16 (ns : List Int) (hn : ns.length ≤ 63) : m_law16 ns [] = .ok (.bool true) := by
  obtain ⟨p, lol, t, hv, ht, hr, e1⟩ := s_some_ring ns hn 0 (by omega)
  have hg := hv.toRg
  have h1 : Good16 (rgD p lol) := all16 (p, lol) (allR_mem hr (by have := hg.p2; omega) hg.lo)
  obtain ⟨a, a0, a1, e2⟩ := s_drawZ ns hn t (by omega) 2 (by omega)
  show (g_law16 [.sc ns, .no, .no, .no, .no, .no, .no, .no, .no, .no, .no, .no]).f = _
  unfold g_law16
  refine seq_f [.sc ns, .ow false (z0 0), .no, .no, .no, .no, .no, .no, .no, .no, .no, .no] rfl ?_
  refine seq_f [.sc ns, .ow false (z0 t), .va (rgD p lol), .no, .no, .no, .no, .no, .no, .no, .no, .no] ?_ ?_
  · unfold L16_1
    simp [sSet, eDraw, ArD, aCons, aNil, eVar, R.bnd, R.o, fzAll, fz, e1]
  by_cases hz : a = 0
  · subst hz
    obtain ⟨i, hi, e3⟩ := s_fieldN ns hn (t + 1) (by omega)
    refine seq_f [.sc ns, .ow false (z0 (t + 1 + 1)), .va (fdD (fdN i)), .no, .no, .no, .no, .no, .no, .no, .no, .no] ?_ (tail16 ns hn _ (by omega) (fld16 i hi))
    unfold L16_2
    have ge : gEq (.int 0) (.int 0) = some (.bool true) := rfl
    exact Eq.trans (v_ifT (v_bTD (v_op2 (v_draw (v_aCons (by rfl) (v_aCons (by rfl) (v_aCons (by rfl) (by rfl)))) (by rfl) (by rfl) (by rfl) (by exact e2)) (by rfl) (by rfl) (by rfl) (by exact ge)))) (Eq.trans (v_setD (v_draw (v_aCons (by rfl) (v_aCons (by rfl) (by rfl))) (by rfl) (by rfl) (by rfl) (by exact e3))) (by rfl))
  · refine seq_f [.sc ns, .ow false (z0 (t + 1)), .va (rgD p lol), .no, .no, .no, .no, .no, .no, .no, .no, .no] ?_ (tail16 ns hn _ (by omega) h1)
    unfold L16_2
    have ge : gEq (.int a) (.int 0) = some (.bool false) := by rw [gEq_int]; simp [hz]
    exact Eq.trans (v_ifF (v_bTD (v_op2 (v_draw (v_aCons (by rfl) (v_aCons (by rfl) (v_aCons (by rfl) (by rfl)))) (by rfl) (by rfl) (by rfl) (by exact e2)) (by rfl) (by rfl) (by rfl) (by exact ge)))) (by rfl)
end Pf
theorem PySem.Challenge.cw_powerfields_k16_whole_from_text_to_recko_holds : PySem.Challenge.rw_powerfields_k16_whole_from_text_to_recko.Holds :=
  Pf.holds Pf.main16
