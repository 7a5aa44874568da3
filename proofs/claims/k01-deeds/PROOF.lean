import PyProof.Rows.All
import Wide.All
import OpenK.AllK
import Wide.FinOn
import HandS.ForMost
import HandS.ForExc
import HandS.Star
import HandS.More
import HandS.Lambda
import KE.KDictKeyed
import KE.KeyNested
import HandS.TupAny
import HandS.IsInst
import HandS.Iter
import HandS.TryMany
import HandS.ExcField
import HandS.ExcInit
import HandS.Nested
import KE.KExcSuper
import HandS.FStrTup
import HandS.RaiseMore
import HandS.Dict
import HandS.Text
import HandS.List
import HandS.DictComp
import HandS.SortRule
import HandS.SortInts
import KE.KDictSum
import HandS.Conv
import PyProof.NeKinds
import PyProof.EqAt
import KE.KDictPairs
import PyProof.ReprRoads
import HandS.EndTab
import PySem.Challenge.RW_usesstaybound_k01_deeds_and_names
section
set_option Elab.async false
set_option linter.all false
set_option maxRecDepth 100000
set_option maxHeartbeats 2000000
namespace Fx
open PySem PySem.Spec PyProof.Rows L2
/-- the tables of code objects that are known, with the name of their code -/
class Nam where
  T : List (Addr × Str)
variable [Nam]

/-! ## data, the store, results -/
inductive D where
  | non | bl (b : Bool) | int (i : Int) | str (s : Str) | tup (xs : List D) | lst (xs : List D) | fz (xs : List D)
  | ref (n : Nat) | opq (n : Nat) | adr (a : Addr) | dct (ks : List Key) (vs : List D)
  deriving Inhabited
/-- a mutable object -/
inductive O where
  | lst (xs : List D) | ins (C : Addr) (fs : List (Str × D)) | dead
  /-- a dict whose keys are tuples; one that will not change any more -/
  | dct (kvs : List (D × D)) | fzd (kvs : List (D × D))
  deriving Inhabited
abbrev Sto := List O
abbrev En := List (Option D)
inductive Res (α : Type) where
  | ok (a : α) (S : Sto)
  | exc (c : Addr) (fs : List (Str × D)) (S : Sto)
  | bad
def Res.bind {α β : Type} (r : Res α) (f : α → Sto → Res β) : Res β := match r with
  | .ok a S => f a S
  | .exc c fs S => .exc c fs S
  | .bad => .bad
@[simp] theorem Res.bind_ok {α β : Type} (a : α) (S : Sto) (f : α → Sto → Res β) : (Res.ok a S).bind f = f a S := rfl
@[simp] theorem Res.bind_exc {α β : Type} (c : Addr) (fs : List (Str × D)) (S : Sto) (f : α → Sto → Res β) : (Res.exc c fs S : Res α).bind f = .exc c fs S := rfl
@[simp] theorem Res.bind_bad {α β : Type} (f : α → Sto → Res β) : (Res.bad : Res α).bind f = .bad := rfl
abbrev Ed := En → Sto → Res D
abbrev Bd := En → Sto → Res Bool
abbrev Ad := En → Sto → Res (List D)
inductive SR where
  | nx (Γ : En) (S : Sto) | rt (d : D) (S : Sto) | bk (Γ : En) (S : Sto) | ct (Γ : En) (S : Sto)
  | ex (c : Addr) (fs : List (Str × D)) (Γ : En) (S : Sto) | bad
abbrev Sd := En → Sto → SR
abbrev Fn := List D → Sto → Res D

/-- the written part and the world -/
structure Kw where
  K : PySem.W.Frag
  w : World
instance : Coe Kw PySem.W.Frag := ⟨Kw.K⟩
abbrev _root_.L2.Cx.kw (X : L2.Cx) : Kw := ⟨X.K, X.w⟩
/-! ## what stands for what -/
structure Wd where
  r : List Addr
  F : Hp
  H : Hp
mutual
inductive Rep (K : Kw) (r : List Addr) (F : Hp) : V → D → Prop
  | non : Rep K r F .non .non
  | bl (b : Bool) : Rep K r F (.bl b) (.bl b)
  | int (i : Int) : Rep K r F (.int i) (.int i)
  | str (x : Str) : Rep K r F (.str x) (.str x)
  | tup {a : Addr} {vs : List V} {ds : List D} : SqT K F a vs → Reps K r F vs ds → Rep K r F (.ref a) (.tup ds)
  | lst {a : Addr} {vs : List V} {ds : List D} : F a = some (.lst vs) → Reps K r F vs ds → Rep K r F (.ref a) (.lst ds)
  | fz {a : Addr} {vs : List V} {ds : List D} : SqL K F a vs → Reps K r F vs ds → Rep K r F (.ref a) (.fz ds)
  | ref {a : Addr} {n : Nat} : r[n]? = some a → Rep K r F (.ref a) (.ref n)
  | opq {x : Str} {n : Nat} : x.length ≤ n → Rep K r F (.str x) (.opq n)
  | adr (a : Addr) : Rep K r F (.ref a) (.adr a)
  | dct {a : Addr} {kvs : List (Key × V)} {ks : List Key} {vs : List V} {ds : List D} : F a = some (.dK kvs) → kvs = ks.zip vs → ks.length = vs.length → Reps K r F vs ds → Rep K r F (.ref a) (.dct ks ds)
inductive Reps (K : Kw) (r : List Addr) (F : Hp) : List V → List D → Prop
  | nil : Reps K r F [] []
  | cons {v : V} {vs : List V} {d : D} {ds : List D} : Rep K r F v d → Reps K r F vs ds → Reps K r F (v :: vs) (d :: ds)
end
def Fld (K : Kw) (r : List Addr) (F : Hp) : List (Str × V) → List (Str × D) → Prop := Paired fun p q => p.1 = q.1 ∧ Rep K r F p.2 q.2
/-! ### dicts with tuples as keys -/
mutual
def keyN : D → Option NestedKey
  | .non => some .none
  | .bl b => some (.num (if b = true then 1 else 0))
  | .int i => some (.num i)
  | .str x => some (.text x)
  | .tup ds => match keysN ds with
    | some ks => some (.tup ks)
    | none => none
  | _ => none
def keysN : List D → Option (List NestedKey)
  | [] => some []
  | d :: ds => match keyN d, keysN ds with
    | some k, some ks => some (k :: ks)
    | _, _ => none
end
/-- the key of a tuple -/
def keyT (d : D) : Option NestedKey := match d with
  | .tup ds => match keyN (.tup ds) with
    | some k => if k.depth ≤ 8 then some k else none
    | none => none
  | _ => none
/-- the dict object at a, its entries: key, the key's tuple, value -/
def NdP (w : World) (a : Addr) (l : List (NestedKey × Addr × V)) (h : Heap) : Prop :=
  l.length ≤ sizeLine ∧ (a == sysModules) = false ∧ ∃ xs : List (NestedKey × Addr × Value), Paired (fun p q => p.1 = q.1 ∧ p.2.1 = q.2.1 ∧ RelV p.2.2 q.2.2) l xs ∧ (xs.map (·.1)).Nodup ∧
    ∃ o es ep, h.get? a = some o ∧ o.ExactDict ∧ o.data = .dict es ep ∧ es.toList = xs.map fun x => (⟨x.1.hash w, .ref x.2.1, x.2.2⟩ : DictEntry)
def NdO (w : World) (a : Addr) (l : List (NestedKey × Addr × V)) : HO := .ext (NdP w a l)
theorem heap_of_size : ∀ n : Nat, ∃ h : Heap, h.objs.size = n
  | 0 => ⟨default, rfl⟩
  | n + 1 => by
    obtain ⟨h, e⟩ := heap_of_size n
    exact ⟨h.push default, by rw [Heap.size_push, e]⟩
theorem code_ne_nd {w : World} {a : Addr} {l : List (NestedKey × Addr × V)} {q : Str} : LamX.CodeO a q ≠ NdO w a l := fun z => by
  have z2 := HO.ext.inj z
  obtain ⟨h, e⟩ := heap_of_size a
  have hg : (h.push { cls := .none, data := .fields #[.none, .str q 0] }).get? a = some { cls := .none, data := .fields #[.none, .str q 0] } := by rw [← e]; exact Heap.get?_push_size _ rfl
  have p : NdP w a l (h.push { cls := .none, data := .fields #[.none, .str q 0] }) := by rw [← z2]; exact ⟨_, _, 0, hg, rfl, rfl⟩
  obtain ⟨_, _, xs, _, _, o, es, ep, e1, _, e2, _⟩ := p
  rw [hg] at e1
  cases e1
  cases e2
def RepK (K : Kw) (r : List Addr) (F : Hp) : List (NestedKey × Addr × V) → List (D × D) → Prop := Paired fun p q => keyT q.1 = some p.1 ∧ Rep K r F (.ref p.2.1) q.1 ∧ Rep K r F p.2.2 q.2
def RepO (K : Kw) (r : List Addr) (F H : Hp) (a : Addr) : O → Prop
  | .lst ds => ∃ vs, H a = some (.lst vs) ∧ Reps K r F vs ds
  | .ins C fs => ∃ dx vs, H a = some (.ins C dx vs) ∧ Fld K r F vs fs
  | .dead => False
  | .dct kvs => ∃ l, H a = some (NdO K.w a l) ∧ RepK K r F l kvs
  | .fzd kvs => ∃ o l, H a = some (.frz o (NdO K.w a l)) ∧ RepK K r F l kvs
/-- neither a table nor a code object nor a frozen thing -/
def Lo (p : Addr) (x : Option HO) : Prop := ∀ u, x = some u → (∀ ps, u ≠ .tbl ps) ∧ (∀ o z, u ≠ .frz o z) ∧ ∀ q, u ≠ LamX.CodeO p q
theorem lo_lst {p : Addr} {vs : List V} : Lo p (some (.lst vs)) := fun u e => by cases e; exact ⟨fun _ z => (nomatch z), fun _ _ z => (nomatch z), fun _ z => by unfold LamX.CodeO at z; cases z⟩
theorem lo_ins {p C dx : Addr} {vs : List (Str × V)} : Lo p (some (.ins C dx vs)) := fun u e => by cases e; exact ⟨fun _ z => (nomatch z), fun _ _ z => (nomatch z), fun _ z => by unfold LamX.CodeO at z; cases z⟩
theorem lo_dK {p : Addr} {kvs : List (Key × V)} : Lo p (some (.dK kvs)) := fun u e => by cases e; exact ⟨fun _ z => (nomatch z), fun _ _ z => (nomatch z), fun _ z => by unfold LamX.CodeO at z; cases z⟩
theorem lo_nd {w : World} {p : Addr} {l : List (NestedKey × Addr × V)} : Lo p (some (NdO w p l)) := fun u e => by
  have e : NdO w p l = u := Option.some.inj e
  subst e
  refine ⟨fun ps z => ?_, fun o z' z => ?_, fun q z => code_ne_nd z.symm⟩
  · unfold NdO at z; cases z
  · unfold NdO at z; cases z
theorem lo_none {H : Hp} {p : Addr} (h : H p = none) : Lo p (H p) := fun u e => by rw [h] at e; cases e
theorem repO_lo {K : Kw} {r : List Addr} {F H : Hp} {a : Addr} {o : O} (h : RepO K r F H a o) (hd : o ≠ .dead) (hf : ∀ l, o ≠ .fzd l) : Lo a (H a) := by
  cases o with
  | lst ds => obtain ⟨vs, e, _⟩ := h; rw [e]; exact lo_lst
  | ins C fs => obtain ⟨dx, vs, e, _⟩ := h; rw [e]; exact lo_ins
  | dead => exact absurd rfl hd
  | dct kvs => obtain ⟨l, e, _⟩ := h; rw [e]; exact lo_nd
  | fzd kvs => exact absurd rfl (hf kvs)
def SubH (F F' : Hp) : Prop := ∀ a o, F a = some o → F' a = some o
theorem SubH.refl (F : Hp) : SubH F F := fun _ _ h => h
theorem SubH.trans {F G I : Hp} (a : SubH F G) (b : SubH G I) : SubH F I := fun x o h => b x o (a x o h)
structure Wd.Ok (K : Kw) (w : Wd) (S : Sto) : Prop where
  sub : SubH w.F w.H
  len : w.r.length = S.length
  nd : w.r.Nodup
  obj : ∀ (n : Nat) (o : O) (a : Addr), S[n]? = some o → w.r[n]? = some a → RepO K w.r w.F w.H a o
  out : ∀ (n : Nat) (o : O) (a : Addr), S[n]? = some o → w.r[n]? = some a → o ≠ .dead → w.F a = none
  there : ∀ (n : Nat) (a : Addr), w.r[n]? = some a → w.H a ≠ none
  ntb : ∀ (a : Addr) (ps : Array Value), w.F a ≠ some (.tbl ps)
/-- nothing is known there, or a table -/
def Fre (o : Option HO) : Prop := o = none ∨ ∃ ps, o = some (.tbl ps)
theorem Fre.not {o : Option HO} {u : HO} (f : Fre o) (e : o = some u) (n : ∀ ps, u ≠ .tbl ps) : False := by
  rcases f with f | ⟨ps, f⟩
  · rw [f] at e; cases e
  · rw [f] at e; exact n ps (Option.some.inj e).symm
structure Step (w w' : Wd) : Prop where
  pre : w.r <+: w'.r
  sub : SubH w.F w'.F
  frame : ∀ a o, w.H a = some o → a ∉ w.r → (∀ ps, o ≠ .tbl ps) → w'.H a = some o
  frz : ∀ a o u, w.H a = some (.frz o u) → w'.H a = some (.frz o u)
  dom : ∀ a, w.H a ≠ none → (∀ ps, w.H a ≠ some (.tbl ps)) → w'.H a ≠ none ∧ ∀ ps, w'.H a ≠ some (.tbl ps)
  tabs : LamX.Tabs Nam.T w.H → LamX.Tabs Nam.T w'.H
  newr : ∀ a, a ∈ w'.r → a ∈ w.r ∨ Fre (w.H a)
  newF : ∀ a, w'.F a ≠ none → w.F a ≠ none ∨ Fre (w.H a) ∨ a ∈ w.r
theorem Step.refl (w : Wd) : Step w w := ⟨List.prefix_refl _, SubH.refl _, fun _ _ h _ _ => h, fun _ _ _ h => h, fun _ h n => ⟨h, n⟩, id, fun _ h => .inl h, fun _ h => .inl h⟩
theorem Step.fre {u v : Wd} (a : Step u v) {x : Addr} (h : Fre (v.H x)) : Fre (u.H x) := by
  cases e : u.H x with
  | none => exact .inl rfl
  | some o =>
    by_cases ht : ∃ ps, o = .tbl ps
    · obtain ⟨ps, q⟩ := ht
      exact .inr ⟨ps, by rw [q]⟩
    · obtain ⟨h1, h2⟩ := a.dom x (by rw [e]; simp) (fun ps z => ht ⟨ps, Option.some.inj (e.symm.trans z)⟩)
      rcases h with h | ⟨ps, h⟩
      · exact absurd h h1
      · exact absurd h (h2 ps)
theorem Step.trans {u v w : Wd} (a : Step u v) (b : Step v w) : Step u w where
  pre := a.pre.trans b.pre
  sub := a.sub.trans b.sub
  frame x o h n nt := by
    have h1 := a.frame x o h n nt
    refine b.frame x o h1 (fun hm => ?_) nt
    rcases a.newr x hm with h2 | h2
    · exact n h2
    · exact h2.not h nt
  frz x o z h := b.frz x o z (a.frz x o z h)
  dom x h n := b.dom x (a.dom x h n).1 (a.dom x h n).2
  tabs h := b.tabs (a.tabs h)
  newr x hx := by
    rcases b.newr x hx with h | h
    · exact a.newr x h
    · exact .inr (a.fre h)
  newF x hx := by
    rcases b.newF x hx with h | h | h
    · exact a.newF x h
    · exact .inr (.inl (a.fre h))
    · rcases a.newr x h with h | h
      · exact .inr (.inr h)
      · exact .inr (.inl h)
theorem dom_upd {H : Hp} {p : Addr} {u : HO} (hu : ∀ ps, u ≠ .tbl ps) : ∀ a, H a ≠ none → (∀ ps, H a ≠ some (.tbl ps)) → upd H p u a ≠ none ∧ ∀ ps, upd H p u a ≠ some (.tbl ps) := fun a h n => by
  by_cases e : a = p
  · rw [e, upd_same]; exact ⟨by simp, fun ps z => hu ps (Option.some.inj z)⟩
  · rw [upd_ne e]; exact ⟨h, n⟩
theorem frz_upd {H : Hp} {p : Addr} {u : HO} (h : Lo p (H p)) : ∀ a o z, H a = some (.frz o z) → upd H p u a = some (.frz o z) := fun a o z e => by
  have : a ≠ p := fun q => by rw [q] at e; exact (h _ e).2.1 _ _ rfl
  rw [upd_ne this]; exact e
theorem tabs_upd {H : Hp} {p : Addr} {u : HO} (h : Lo p (H p)) : LamX.Tabs Nam.T H → LamX.Tabs Nam.T (upd H p u) := fun t q hq => by
  obtain ⟨ps, h1, h2, h3⟩ := t q hq
  refine ⟨ps, ?_, h2, fun pos cv hc => ?_⟩
  · have : q.1 ≠ p := fun z => by rw [z] at h1; exact (h _ h1).1 _ rfl
    rw [upd_ne this]; exact h1
  · obtain ⟨c, e1, e2⟩ := h3 pos cv hc
    have : c ≠ p := fun z => by rw [z] at e2; exact (h _ e2).2.2 _ rfl
    exact ⟨c, e1, by rw [upd_ne this]; exact e2⟩
theorem rd_sub {F F' : Hp} (s : SubH F F') {a : Addr} {u : HO} (h : Rd F a u) : Rd F' a u := by
  rcases h with h | ⟨o, h⟩
  · exact .inl (s _ _ h)
  · exact .inr ⟨o, s _ _ h⟩
theorem sqT_sub {K : Kw} {F F' : Hp} (s : SubH F F') {a : Addr} {xs : List V} (h : SqT K F a xs) : SqT K F' a xs := h.imp (rd_sub s) id
theorem sqL_sub {K : Kw} {F F' : Hp} (s : SubH F F') {a : Addr} {xs : List V} (h : SqL K F a xs) : SqL K F' a xs := h.imp (rd_sub s) id
theorem pre_get {α : Type} {l l' : List α} (h : l <+: l') {n : Nat} {a : α} (e : l[n]? = some a) : l'[n]? = some a := by
  obtain ⟨t, rfl⟩ := h
  rw [List.getElem?_append_left]
  · exact e
  · exact (List.getElem?_eq_some_iff.mp e).1
mutual
theorem Rep.up {K : Kw} {r r' : List Addr} {F F' : Hp} (p : r <+: r') (s : SubH F F') : ∀ {v : V} {d : D}, Rep K r F v d → Rep K r' F' v d
  | _, _, .non => .non
  | _, _, .bl b => .bl b
  | _, _, .int i => .int i
  | _, _, .str x => .str x
  | _, _, .tup h hs => .tup (sqT_sub s h) (Reps.up p s hs)
  | _, _, .lst h hs => .lst (s _ _ h) (Reps.up p s hs)
  | _, _, .fz h hs => .fz (sqL_sub s h) (Reps.up p s hs)
  | _, _, .ref h => .ref (pre_get p h)
  | _, _, .opq h => .opq h
  | _, _, .adr a => .adr a
  | _, _, .dct h e z hs => .dct (s _ _ h) e z (Reps.up p s hs)
theorem Reps.up {K : Kw} {r r' : List Addr} {F F' : Hp} (p : r <+: r') (s : SubH F F') : ∀ {v : List V} {d : List D}, Reps K r F v d → Reps K r' F' v d
  | _, _, .nil => .nil
  | _, _, .cons h hs => .cons (Rep.up p s h) (Reps.up p s hs)
end
theorem Fld.up {K : Kw} {r r' : List Addr} {F F' : Hp} (p : r <+: r') (s : SubH F F') {vs : List (Str × V)} {fs : List (Str × D)} (h : Fld K r F vs fs) : Fld K r' F' vs fs :=
  Paired.mapP h fun _ _ q => ⟨q.1, q.2.up p s⟩
theorem Reps.len {K : Kw} {r : List Addr} {F : Hp} : ∀ {vs : List V} {ds : List D}, Reps K r F vs ds → vs.length = ds.length
  | _, _, .nil => rfl
  | _, _, .cons _ h => congrArg (· + 1) h.len
theorem Reps.get {K : Kw} {r : List Addr} {F : Hp} : ∀ {vs : List V} {ds : List D} {i : Nat} {d : D}, Reps K r F vs ds → ds[i]? = some d → ∃ v, vs[i]? = some v ∧ Rep K r F v d
  | _, _, _, _, .nil, e => by simp at e
  | _, _, 0, d, .cons h _, e => by simp at e; subst e; exact ⟨_, rfl, h⟩
  | _, _, i + 1, d, .cons _ h, e => by
    obtain ⟨v, h1, h2⟩ := Reps.get (i := i) h (by simpa using e)
    exact ⟨v, by simpa using h1, h2⟩
theorem Reps.get' {K : Kw} {r : List Addr} {F : Hp} : ∀ {vs : List V} {ds : List D} {i : Nat} {v : V}, Reps K r F vs ds → vs[i]? = some v → ∃ d, ds[i]? = some d ∧ Rep K r F v d
  | _, _, _, _, .nil, e => by simp at e
  | _, _, 0, d, .cons h _, e => by simp at e; subst e; exact ⟨_, rfl, h⟩
  | _, _, i + 1, d, .cons _ h, e => by
    obtain ⟨v, h1, h2⟩ := Reps.get' (i := i) h (by simpa using e)
    exact ⟨v, by simpa using h1, h2⟩
theorem Reps.app {K : Kw} {r : List Addr} {F : Hp} : ∀ {vs us : List V} {ds es : List D}, Reps K r F vs ds → Reps K r F us es → Reps K r F (vs ++ us) (ds ++ es)
  | _, _, _, _, .nil, h => h
  | _, _, _, _, .cons a b, h => .cons a (Reps.app b h)
theorem Reps.take {K : Kw} {r : List Addr} {F : Hp} : ∀ {vs : List V} {ds : List D} (n : Nat), Reps K r F vs ds → Reps K r F (vs.take n) (ds.take n)
  | _, _, 0, _ => .nil
  | _, _, _ + 1, .nil => .nil
  | _, _, n + 1, .cons a b => .cons a (Reps.take n b)
theorem Reps.drop {K : Kw} {r : List Addr} {F : Hp} : ∀ {vs : List V} {ds : List D} (n : Nat), Reps K r F vs ds → Reps K r F (vs.drop n) (ds.drop n)
  | _, _, 0, h => h
  | _, _, _ + 1, .nil => .nil
  | _, _, n + 1, .cons _ b => Reps.drop n b
theorem Reps.set {K : Kw} {r : List Addr} {F : Hp} : ∀ {vs : List V} {ds : List D} (n : Nat) {v : V} {d : D}, Rep K r F v d → Reps K r F vs ds → Reps K r F (vs.set n v) (ds.set n d)
  | _, _, _, _, _, _, .nil => .nil
  | _, _, 0, _, _, h, .cons _ b => .cons h b
  | _, _, n + 1, _, _, h, .cons a b => .cons a (Reps.set n h b)
theorem Reps.dropLast {K : Kw} {r : List Addr} {F : Hp} {vs : List V} {ds : List D} (h : Reps K r F vs ds) : Reps K r F vs.dropLast ds.dropLast := by
  rw [List.dropLast_eq_take, List.dropLast_eq_take, h.len]
  exact h.take _

/-- a base: a world that is behind, and what is known of the slots -/
structure Bs where
  w : Wd
  P : L2.St → Prop
def Keeps (B : Bs) (i : Nat) : Prop := ∀ (σ : L2.St) (v : Option V), B.P σ → B.P (σ.set i v)

/-! ## what a reading of a result is -/
section
variable (K : Kw)
def ExAt (w : Wd) (dx : Addr) (vs : List (Str × V)) : Prop := w.H dx = some (.xd vs) ∧ dx ∉ w.r ∧ w.F dx = none
def EnOk (B : Bs) (w : Wd) (Γ : En) (σ : L2.St) : Prop := (Step B.w w ∧ B.P σ) ∧ Γ.length = σ.length ∧ ∀ (i : Nat) (d : D), Γ[i]? = some (some d) → ∃ v, σ[i]? = some (some v) ∧ Rep K w.r w.F v d
def PoE (W : WX) (w : Wd) (σ : L2.St) (r : Res D) (Q : VK) : Prop := match r with
  | .ok d S' => ∀ w' v, Step w w' → w'.Ok K S' → Rep K w'.r w'.F v d → Q v w'.H
  | .exc c fs S' => ∀ w' dx vs, Step w w' → w'.Ok K S' → ExAt w' dx vs → Fld K w'.r w'.F vs fs → W (.ref c) (some dx) σ w'.H
  | .bad => False
def PoB (W : WX) (w : Wd) (σ : L2.St) (r : Res Bool) (Q : Bool → Hp → Prop) : Prop := match r with
  | .ok b S' => ∀ w', Step w w' → w'.Ok K S' → Q b w'.H
  | .exc c fs S' => ∀ w' dx vs, Step w w' → w'.Ok K S' → ExAt w' dx vs → Fld K w'.r w'.F vs fs → W (.ref c) (some dx) σ w'.H
  | .bad => False
def PoA (W : WX) (w : Wd) (σ : L2.St) (r : Res (List D)) (Q : List V → Hp → Prop) : Prop := match r with
  | .ok ds S' => ∀ w' vs, Step w w' → w'.Ok K S' → Reps K w'.r w'.F vs ds → Q vs w'.H
  | .exc c fs S' => ∀ w' dx vs, Step w w' → w'.Ok K S' → ExAt w' dx vs → Fld K w'.r w'.F vs fs → W (.ref c) (some dx) σ w'.H
  | .bad => False
def PoS (B : Bs) (W : WX) (w : Wd) (r : SR) (E : Ends) : Prop := match r with
  | .nx Γ S' => ∀ w' σ', Step w w' → w'.Ok K S' → EnOk K B w' Γ σ' → E.nx σ' w'.H
  | .bk Γ S' => ∀ w' σ', Step w w' → w'.Ok K S' → EnOk K B w' Γ σ' → E.bk σ' w'.H
  | .ct Γ S' => ∀ w' σ', Step w w' → w'.Ok K S' → EnOk K B w' Γ σ' → E.ct σ' w'.H
  | .rt d S' => ∀ w' v, Step w w' → w'.Ok K S' → Rep K w'.r w'.F v d → E.rt v w'.H
  | .ex c fs Γ S' => ∀ w' σ' dx vs, Step w w' → w'.Ok K S' → EnOk K B w' Γ σ' → ExAt w' dx vs → Fld K w'.r w'.F vs fs → W (.ref c) (some dx) σ' w'.H
  | .bad => False
def cE (B : Bs) (W : WX) (m : Ed) : TE := fun σ H Q => ∃ r F Γ S, Wd.Ok K ⟨r, F, H⟩ S ∧ EnOk K B ⟨r, F, H⟩ Γ σ ∧ PoE K W ⟨r, F, H⟩ σ (m Γ S) Q
def cB (B : Bs) (W : WX) (m : Bd) : TT := fun σ H Q => ∃ r F Γ S, Wd.Ok K ⟨r, F, H⟩ S ∧ EnOk K B ⟨r, F, H⟩ Γ σ ∧ PoB K W ⟨r, F, H⟩ σ (m Γ S) Q
def cA (B : Bs) (W : WX) (m : Ad) : TA := fun σ H Q => ∃ r F Γ S, Wd.Ok K ⟨r, F, H⟩ S ∧ EnOk K B ⟨r, F, H⟩ Γ σ ∧ PoA K W ⟨r, F, H⟩ σ (m Γ S) Q
def cS (B : Bs) (W : WX) (m : Sd) : TS := fun E σ H => ∃ r F Γ S, Wd.Ok K ⟨r, F, H⟩ S ∧ EnOk K B ⟨r, F, H⟩ Γ σ ∧ PoS K B W ⟨r, F, H⟩ (m Γ S) E
end
def Tr (X : Cx) (B : Bs) (W : WX) (e : Expr) (m : Ed) : Prop := PE X e (cE X.kw B W m)
def TrB (X : Cx) (B : Bs) (W : WX) (e : Expr) (m : Bd) : Prop := PT X e (cB X.kw B W m)
def TrW (X : Cx) (B : Bs) (W : WX) (e : Expr) (m : Bd) : Prop := PW X e (cB X.kw B W m)
def TrA (X : Cx) (B : Bs) (W : WX) (es : List Expr) (m : Ad) : Prop := PA X es (cA X.kw B W m)
def TrS (X : Cx) (B : Bs) (W : WX) (st : Stmt) (m : Sd) : Prop := PS X st (cS X.kw B W m)
def TrSs (X : Cx) (B : Bs) (W : WX) (st : List Stmt) (m : Sd) : Prop := PSs X st (cS X.kw B W m)
section
variable {X : Cx} {e : Expr} {es : List Expr} {st : Stmt} {sts : List Stmt}
theorem imE {t t' : TE} (h : PE X e t) (k : ∀ σ H Q, t' σ H Q → t σ H Q) : PE X e t' := ⟨fun p s σ H Q I q => h.run p s σ H Q I (k _ _ _ q)⟩
theorem imB {t t' : TT} (h : PT X e t) (k : ∀ σ H Q, t' σ H Q → t σ H Q) : PT X e t' := ⟨fun p s σ H Q I q => h.run p s σ H Q I (k _ _ _ q)⟩
theorem imW {t t' : TT} (h : PW X e t) (k : ∀ σ H Q, t' σ H Q → t σ H Q) : PW X e t' := ⟨fun wh p s σ H Q I q => h.run wh p s σ H Q I (k _ _ _ q)⟩
theorem imA {t t' : TA} (h : PA X es t) (k : ∀ σ H Q, t' σ H Q → t σ H Q) : PA X es t' := ⟨fun po p s σ H Q I q => h.run po p s σ H Q I (k _ _ _ q)⟩
theorem imS {t t' : TS} (h : PS X st t) (k : ∀ E σ H, t' E σ H → t E σ H) : PS X st t' := ⟨fun p s σ H E I q => h.run p s σ H E I (k _ _ _ q)⟩
theorem imSs {t t' : TS} (h : PSs X sts t) (k : ∀ E σ H, t' E σ H → t E σ H) : PSs X sts t' := ⟨fun p s σ H E I q => h.run p s σ H E I (k _ _ _ q)⟩
end
section
variable {K : Kw} {B : Bs} {W : WX} {w w' : Wd} {σ : L2.St} {Γ : En} {S : Sto}
theorem EnOk.step (t : Step w w') (h : EnOk K B w Γ σ) : EnOk K B w' Γ σ := ⟨⟨h.1.1.trans t, h.1.2⟩, h.2.1, fun i d e => by
  obtain ⟨v, h1, h2⟩ := h.2.2 i d e
  exact ⟨v, h1, h2.up t.pre t.sub⟩⟩
theorem EnOk.set {i : Nat} {v : V} {d : D} (h : EnOk K B w Γ σ) (kp : Keeps B i) (r : Rep K w.r w.F v d) : EnOk K B w (Γ.set i (some d)) (σ.set i (some v)) := ⟨⟨h.1.1, kp _ _ h.1.2⟩, by rw [List.length_set, List.length_set]; exact h.2.1, fun j d' e => by
  by_cases hj : i = j
  · subst hj
    have hl : i < Γ.length := by
      have := (List.getElem?_eq_some_iff.mp e).1
      rwa [List.length_set] at this
    rw [List.getElem?_set_self hl] at e
    cases e
    exact ⟨v, List.getElem?_set_self (by rw [← h.2.1]; exact hl), r⟩
  · rw [List.getElem?_set_ne hj] at e
    obtain ⟨v', h1, h2⟩ := h.2.2 j d' e
    exact ⟨v', by rw [List.getElem?_set_ne hj]; exact h1, h2⟩⟩
theorem EnOk.forget {i : Nat} {v : Option V} (h : EnOk K B w Γ σ) (kp : Keeps B i) : EnOk K B w (Γ.set i none) (σ.set i v) := ⟨⟨h.1.1, kp _ _ h.1.2⟩, by rw [List.length_set, List.length_set]; exact h.2.1, fun j d' e => by
  by_cases hj : i = j
  · subst hj
    have hl : i < Γ.length := by
      have := (List.getElem?_eq_some_iff.mp e).1
      rwa [List.length_set] at this
    rw [List.getElem?_set_self hl] at e
    cases e
  · rw [List.getElem?_set_ne hj] at e
    obtain ⟨v', h1, h2⟩ := h.2.2 j d' e
    exact ⟨v', by rw [List.getElem?_set_ne hj]; exact h1, h2⟩⟩
theorem PoE.step {r : Res D} {Q : VK} (t : Step w w') (h : PoE K W w σ r Q) : PoE K W w' σ r Q := by
  cases r with
  | ok d S => exact fun w2 v t2 o r => h w2 v (t.trans t2) o r
  | exc c fs S => exact fun w2 dx vs t2 o e r => h w2 dx vs (t.trans t2) o e r
  | bad => exact h
theorem PoB.step {r : Res Bool} {Q : Bool → Hp → Prop} (t : Step w w') (h : PoB K W w σ r Q) : PoB K W w' σ r Q := by
  cases r with
  | ok d S => exact fun w2 t2 o => h w2 (t.trans t2) o
  | exc c fs S => exact fun w2 dx vs t2 o e r => h w2 dx vs (t.trans t2) o e r
  | bad => exact h
theorem PoA.step {r : Res (List D)} {Q : List V → Hp → Prop} (t : Step w w') (h : PoA K W w σ r Q) : PoA K W w' σ r Q := by
  cases r with
  | ok d S => exact fun w2 v t2 o r => h w2 v (t.trans t2) o r
  | exc c fs S => exact fun w2 dx vs t2 o e r => h w2 dx vs (t.trans t2) o e r
  | bad => exact h
theorem PoS.step {r : SR} {E : Ends} (t : Step w w') (h : PoS K B W w r E) : PoS K B W w' r E := by
  cases r with
  | nx Γ S => exact fun w2 σ t2 o r => h w2 σ (t.trans t2) o r
  | bk Γ S => exact fun w2 σ t2 o r => h w2 σ (t.trans t2) o r
  | ct Γ S => exact fun w2 σ t2 o r => h w2 σ (t.trans t2) o r
  | rt d S => exact fun w2 v t2 o r => h w2 v (t.trans t2) o r
  | ex c fs Γ S => exact fun w2 σ dx vs t2 o g e r => h w2 σ dx vs (t.trans t2) o g e r
  | bad => exact h
/-- one after the other -/
theorem PoE.bindE {r : Res D} {f : D → Sto → Res D} {Q Q' : VK} (h : PoE K W w σ (r.bind f) Q) (k : ∀ d S w' v, r = .ok d S → Step w w' → w'.Ok K S → Rep K w'.r w'.F v d → PoE K W w' σ (f d S) Q → Q' v w'.H) : PoE K W w σ r Q' := by
  cases r with
  | ok d S => exact fun w2 v t o r => k d S w2 v rfl t o r (PoE.step t h)
  | exc c fs S => exact h
  | bad => exact h
theorem PoB.bindE {r : Res D} {f : D → Sto → Res Bool} {Q : Bool → Hp → Prop} {Q' : VK} (h : PoB K W w σ (r.bind f) Q) (k : ∀ d S w' v, r = .ok d S → Step w w' → w'.Ok K S → Rep K w'.r w'.F v d → PoB K W w' σ (f d S) Q → Q' v w'.H) : PoE K W w σ r Q' := by
  cases r with
  | ok d S => exact fun w2 v t o r => k d S w2 v rfl t o r (PoB.step t h)
  | exc c fs S => exact h
  | bad => exact h
theorem PoE.bindB {r : Res Bool} {f : Bool → Sto → Res D} {Q : VK} {Q' : Bool → Hp → Prop} (h : PoE K W w σ (r.bind f) Q) (k : ∀ d S w', r = .ok d S → Step w w' → w'.Ok K S → PoE K W w' σ (f d S) Q → Q' d w'.H) : PoB K W w σ r Q' := by
  cases r with
  | ok d S => exact fun w2 t o => k d S w2 rfl t o (PoE.step t h)
  | exc c fs S => exact h
  | bad => exact h
theorem PoB.bindB {r : Res Bool} {f : Bool → Sto → Res Bool} {Q Q' : Bool → Hp → Prop} (h : PoB K W w σ (r.bind f) Q) (k : ∀ d S w', r = .ok d S → Step w w' → w'.Ok K S → PoB K W w' σ (f d S) Q → Q' d w'.H) : PoB K W w σ r Q' := by
  cases r with
  | ok d S => exact fun w2 t o => k d S w2 rfl t o (PoB.step t h)
  | exc c fs S => exact h
  | bad => exact h
theorem PoA.bindE {r : Res D} {f : D → Sto → Res (List D)} {Q : List V → Hp → Prop} {Q' : VK} (h : PoA K W w σ (r.bind f) Q) (k : ∀ d S w' v, r = .ok d S → Step w w' → w'.Ok K S → Rep K w'.r w'.F v d → PoA K W w' σ (f d S) Q → Q' v w'.H) : PoE K W w σ r Q' := by
  cases r with
  | ok d S => exact fun w2 v t o r => k d S w2 v rfl t o r (PoA.step t h)
  | exc c fs S => exact h
  | bad => exact h
theorem PoA.bindA {r : Res (List D)} {f : List D → Sto → Res (List D)} {Q Q' : List V → Hp → Prop} (h : PoA K W w σ (r.bind f) Q) (k : ∀ d S w' v, r = .ok d S → Step w w' → w'.Ok K S → Reps K w'.r w'.F v d → PoA K W w' σ (f d S) Q → Q' v w'.H) : PoA K W w σ r Q' := by
  cases r with
  | ok d S => exact fun w2 v t o r => k d S w2 v rfl t o r (PoA.step t h)
  | exc c fs S => exact h
  | bad => exact h
theorem PoE.bindA {r : Res (List D)} {f : List D → Sto → Res D} {Q : VK} {Q' : List V → Hp → Prop} (h : PoE K W w σ (r.bind f) Q) (k : ∀ d S w' v, r = .ok d S → Step w w' → w'.Ok K S → Reps K w'.r w'.F v d → PoE K W w' σ (f d S) Q → Q' v w'.H) : PoA K W w σ r Q' := by
  cases r with
  | ok d S => exact fun w2 v t o r => k d S w2 v rfl t o r (PoE.step t h)
  | exc c fs S => exact h
  | bad => exact h
/-- nothing turns -/
theorem PoE.now {d : D} {S : Sto} {v : V} {Q : VK} (h : PoE K W w σ (.ok d S) Q) (o : w.Ok K S) (r : Rep K w.r w.F v d) : Q v w.H := h w v (Step.refl w) o r
theorem PoB.now {b : Bool} {S : Sto} {Q : Bool → Hp → Prop} (h : PoB K W w σ (.ok b S) Q) (o : w.Ok K S) : Q b w.H := h w (Step.refl w) o
end
end Fx
end

section
set_option Elab.async false
set_option linter.all false
set_option maxRecDepth 100000
set_option maxHeartbeats 2000000
namespace Fx
open PySem PySem.Spec PyProof.Rows L2
variable [Nam]

/-! ## new objects -/
section
variable {K : Kw} {B : Bs} {W : WX} {w w' : Wd} {σ : L2.St} {Γ : En} {S : Sto}
theorem Wd.Ok.notin (o : w.Ok K S) {p : Addr} (h : w.H p = none) : p ∉ w.r := fun hm => by
  obtain ⟨n, hn⟩ := List.getElem?_of_mem hm
  exact o.there n p hn h
theorem Wd.Ok.noF (o : w.Ok K S) {p : Addr} (h : w.H p = none) : w.F p = none := by
  cases e : w.F p with
  | none => rfl
  | some x => rw [o.sub p x e] at h; cases h
theorem RepO.up {r r' : List Addr} {F F' H H' : Hp} {a : Addr} (p : r <+: r') (s : SubH F F') (e : H' a = H a) : ∀ {o : O}, RepO K r F H a o → RepO K r' F' H' a o
  | .lst ds, ⟨vs, h1, h2⟩ => ⟨vs, e.trans h1, h2.up p s⟩
  | .ins C fs, ⟨dx, vs, h1, h2⟩ => ⟨dx, vs, e.trans h1, h2.up p s⟩
  | .dead, z => z.elim
  | .dct kvs, ⟨l, h1, h2⟩ => ⟨l, e.trans h1, Paired.mapP h2 fun _ _ q => ⟨q.1, q.2.1.up p s, q.2.2.up p s⟩⟩
  | .fzd kvs, ⟨o, l, h1, h2⟩ => ⟨o, l, e.trans h1, Paired.mapP h2 fun _ _ q => ⟨q.1, q.2.1.up p s, q.2.2.up p s⟩⟩
theorem nd_ntb {w : World} {a : Addr} {l : List (NestedKey × Addr × V)} (ps : Array Value) : NdO w a l ≠ .tbl ps := fun z => by unfold NdO at z; cases z
theorem repO_ntb {K : Kw} {r : List Addr} {F H : Hp} {a : Addr} {o : O} (h : RepO K r F H a o) (ps : Array Value) : H a ≠ some (.tbl ps) := fun z => by
  cases o with
  | lst ds => obtain ⟨vs, e, _⟩ := h; rw [e] at z; cases z
  | ins C fs => obtain ⟨dx, vs, e, _⟩ := h; rw [e] at z; cases z
  | dead => exact h.elim
  | dct kvs => obtain ⟨l, e, _⟩ := h; rw [e] at z; exact nd_ntb ps (Option.some.inj z)
  | fzd kvs => obtain ⟨o, l, e, _⟩ := h; rw [e] at z; cases z
theorem upd_ntb {K : Kw} {r : List Addr} {F H : Hp} {p : Addr} {u : HO} {o : O} (h : RepO K r F (upd H p u) p o) : ∀ ps, u ≠ .tbl ps := fun ps z => repO_ntb h ps (by rw [upd_same, z])
/-- a new thing that never changes -/
abbrev Wd.new (w : Wd) (p : Addr) (u : HO) : Wd := ⟨w.r, upd w.F p u, upd w.H p u⟩
theorem sub_new {F : Hp} {p : Addr} {u : HO} (h : F p = none) : SubH F (upd F p u) := fun a o e => by rw [upd_ne (ne_of_none e h)]; exact e
theorem ntb_upd {F : Hp} (n : ∀ (a : Addr) (ps : Array Value), F a ≠ some (.tbl ps)) {p : Addr} {u : HO} (hu : ∀ ps, u ≠ .tbl ps) : ∀ (a : Addr) (ps : Array Value), upd F p u a ≠ some (.tbl ps) := fun a ps e => by
  by_cases hp : a = p
  · rw [hp, upd_same] at e
    exact hu ps (Option.some.inj e)
  · rw [upd_ne hp] at e
    exact n a ps e
theorem Wd.Ok.new (o : w.Ok K S) {p : Addr} (h : w.H p = none) (u : HO) (hu : ∀ ps, u ≠ .tbl ps := by exact fun _ z => (nomatch z)) : (w.new p u).Ok K S ∧ Step w (w.new p u) := by
  have hF := o.noF h
  refine ⟨⟨fun a x e => ?_, o.len, o.nd, fun n x a e1 e2 => ?_, fun n x a e1 e2 ne => ?_, fun n a e2 => ?_, ntb_upd o.ntb hu⟩, ⟨List.prefix_refl _, sub_new hF, fun a x e _ _ => ?_, frz_upd (lo_none h), dom_upd hu, tabs_upd (lo_none h), fun a hm => .inl hm, fun a hm => ?_⟩⟩
  · show upd w.H p u a = some x
    have e : upd w.F p u a = some x := e
    by_cases hp : a = p
    · subst hp
      rw [upd_same] at e ⊢
      exact e
    · rw [upd_ne hp] at e ⊢
      exact o.sub a x e
  · have hp : a ≠ p := fun z => o.there n a e2 (by rw [z]; exact h)
    exact (o.obj n x a e1 e2).up (List.prefix_refl _) (sub_new hF) (upd_ne hp)
  · have hp : a ≠ p := fun z => o.there n a e2 (by rw [z]; exact h)
    show upd w.F p u a = none
    rw [upd_ne hp]
    exact o.out n x a e1 e2 ne
  · have hp : a ≠ p := fun z => o.there n a e2 (by rw [z]; exact h)
    show upd w.H p u a ≠ none
    rw [upd_ne hp]
    exact o.there n a e2
  · exact (sub_new h) a x e
  · by_cases hp : a = p
    · exact .inr (.inl (.inl (by rw [hp]; exact h)))
    · have hm' : upd w.F p u a ≠ none := hm
      exact .inl (by rw [upd_ne hp] at hm'; exact hm')
/-- a new thing that may change -/
abbrev Wd.mut (w : Wd) (p : Addr) (u : HO) : Wd := ⟨w.r ++ [p], w.F, upd w.H p u⟩
theorem pre_app (l : List Addr) (p : Addr) : l <+: l ++ [p] := ⟨[p], rfl⟩
theorem Wd.Ok.mut (o : w.Ok K S) {p : Addr} (h : w.H p = none) {u : HO} {x : O} (hx : RepO K (w.r ++ [p]) w.F (upd w.H p u) p x) : (w.mut p u).Ok K (S ++ [x]) ∧ Step w (w.mut p u) := by
  have hF := o.noF h
  have hlen : w.r.length = S.length := o.len
  refine ⟨⟨fun a y e => ?_, ?_, ?_, fun n y a e1 e2 => ?_, fun n y a e1 e2 ne => ?_, fun n a e2 => ?_, o.ntb⟩, ⟨pre_app _ _, SubH.refl _, fun a y e _ _ => ?_, frz_upd (lo_none h), dom_upd (upd_ntb hx), tabs_upd (lo_none h), fun a hm => ?_, fun a hm => .inl hm⟩⟩
  · show upd w.H p u a = some y
    rw [upd_ne (ne_of_none e hF)]
    exact o.sub a y e
  · show (w.r ++ [p]).length = (S ++ [x]).length
    rw [List.length_append, List.length_append, hlen] <;> rfl
  · show (w.r ++ [p]).Nodup
    rw [List.nodup_append]
    refine ⟨o.nd, by simp, fun a ha b hb z => ?_⟩
    simp at hb
    subst hb
    subst z
    exact o.notin h ha
  · have e2 : (w.r ++ [p])[n]? = some a := e2
    by_cases hn : n < S.length
    · rw [List.getElem?_append_left hn] at e1
      rw [List.getElem?_append_left (by omega)] at e2
      have hp : a ≠ p := fun z => o.there n a e2 (by rw [z]; exact h)
      exact (o.obj n y a e1 e2).up (pre_app _ _) (SubH.refl _) (upd_ne hp)
    · have hn2 : n < (S ++ [x]).length := (List.getElem?_eq_some_iff.mp e1).1
      rw [List.length_append] at hn2
      have hn3 : n = S.length := by simp at hn2; omega
      subst hn3
      rw [List.getElem?_append_right (Nat.le_refl _), Nat.sub_self] at e1
      rw [List.getElem?_append_right (by omega), hlen, Nat.sub_self] at e2
      cases e1
      cases e2
      exact hx
  · have e2 : (w.r ++ [p])[n]? = some a := e2
    by_cases hn : n < S.length
    · rw [List.getElem?_append_left hn] at e1
      rw [List.getElem?_append_left (by omega)] at e2
      exact o.out n y a e1 e2 ne
    · have hn2 : n < (S ++ [x]).length := (List.getElem?_eq_some_iff.mp e1).1
      rw [List.length_append] at hn2
      have hn3 : n = S.length := by simp at hn2; omega
      subst hn3
      rw [List.getElem?_append_right (by omega), hlen, Nat.sub_self] at e2
      cases e2
      exact hF
  · have e2 : (w.r ++ [p])[n]? = some a := e2
    show upd w.H p u a ≠ none
    by_cases hp : a = p
    · rw [hp, upd_same]; simp
    · rw [upd_ne hp]
      by_cases hn : n < w.r.length
      · rw [List.getElem?_append_left hn] at e2
        exact o.there n a e2
      · rw [List.getElem?_append_right (by omega)] at e2
        obtain ⟨_, e3⟩ := List.getElem?_eq_some_iff.mp e2
        simp at e3
        exact absurd e3.symm hp
  · exact (sub_new h) a y e
  · rcases List.mem_append.mp hm with z | z
    · exact .inl z
    · simp at z
      exact .inr (.inl (by rw [z]; exact h))
/-- a thing that may change turns -/
abbrev Wd.put (w : Wd) (p : Addr) (u : HO) : Wd := ⟨w.r, w.F, upd w.H p u⟩
theorem Wd.Ok.put (o : w.Ok K S) {n : Nat} {p : Addr} {u : HO} {x y : O} (hn : S[n]? = some y) (hd : y ≠ .dead) (hf : ∀ l, y ≠ .fzd l) (hp : w.r[n]? = some p) (hx : RepO K w.r w.F (upd w.H p u) p x) : (w.put p u).Ok K (S.set n x) ∧ Step w (w.put p u) := by
  have hF : w.F p = none := o.out n y p hn hp hd
  have hLo : Lo p (w.H p) := repO_lo (o.obj n y p hn hp) hd hf
  have uq : ∀ {m : Nat}, w.r[m]? = some p → m = n := fun {m} e => by
    obtain ⟨h1, e1⟩ := List.getElem?_eq_some_iff.mp e
    obtain ⟨h2, e2⟩ := List.getElem?_eq_some_iff.mp hp
    exact (List.getElem_inj o.nd).mp (e1.trans e2.symm)
  refine ⟨⟨fun a y e => ?_, ?_, o.nd, fun m y a e1 e2 => ?_, fun m y' a e1 e2 ne => ?_, fun m a e2 => ?_, o.ntb⟩, ⟨List.prefix_refl _, SubH.refl _, fun a y e ha _ => ?_, frz_upd hLo, dom_upd (upd_ntb hx), tabs_upd hLo, fun a hm => .inl hm, fun a hm => .inl hm⟩⟩
  · show upd w.H p u a = some y
    rw [upd_ne (ne_of_none e hF)]
    exact o.sub a y e
  · show w.r.length = _
    rw [List.length_set]
    exact o.len
  · by_cases hm : n = m
    · subst hm
      rw [List.getElem?_set_self (List.getElem?_eq_some_iff.mp hn).1] at e1
      cases e1
      have : a = p := Option.some.inj (e2.symm.trans hp)
      subst this
      exact hx
    · rw [List.getElem?_set_ne hm] at e1
      have ha : a ≠ p := fun z => hm (uq (by rw [← z]; exact e2)).symm
      exact (o.obj m y a e1 e2).up (List.prefix_refl _) (SubH.refl _) (upd_ne ha)
  · by_cases hm : n = m
    · subst hm
      have : a = p := Option.some.inj (e2.symm.trans hp)
      subst this
      exact hF
    · rw [List.getElem?_set_ne hm] at e1
      exact o.out m y' a e1 e2 ne
  · show upd w.H p u a ≠ none
    by_cases ha : a = p
    · rw [ha, upd_same]; simp
    · rw [upd_ne ha]
      exact o.there m a e2
  · show upd w.H p u a = some y
    rw [upd_ne fun z => ha (by rw [z]; exact List.mem_of_getElem? hp)]
    exact e
end

/-! ## lists and tuples as they are seen -/
/-- the items of a list, whatever it stands as -/
def dL (S : Sto) : D → Option (List D)
  | .lst xs => some xs
  | .fz xs => some xs
  | .ref n => match S[n]? with | some (.lst xs) => some xs | _ => none
  | _ => none
/-- .. of one that is tracked as a list -/
def dLs (S : Sto) : D → Option (List D)
  | .lst xs => some xs
  | .ref n => match S[n]? with | some (.lst xs) => some xs | _ => none
  | _ => none
section
variable {K : Kw} {B : Bs} {W : WX} {w w' : Wd} {σ : L2.St} {Γ : En} {S : Sto}
theorem dLs_at (o : w.Ok K S) {v : V} {d : D} (r : Rep K w.r w.F v d) {xs : List D} (e : dLs S d = some xs) : ∃ a vs, v = .ref a ∧ w.H a = some (.lst vs) ∧ Reps K w.r w.F vs xs := by
  cases r with
  | lst h hs => cases e; exact ⟨_, _, rfl, o.sub _ _ h, hs⟩
  | @ref a n h =>
    unfold dLs at e
    dsimp only at e
    split at e
    · rename_i ys hy
      cases e
      obtain ⟨vs, h1, h2⟩ := o.obj n _ a hy h
      exact ⟨a, vs, rfl, h1, h2⟩
    · cases e
  | _ => cases e
theorem dL_at (o : w.Ok K S) {v : V} {d : D} (r : Rep K w.r w.F v d) {xs : List D} (e : dL S d = some xs) : ∃ a vs, v = .ref a ∧ SqL K w.H a vs ∧ Reps K w.r w.F vs xs := by
  cases r with
  | lst h hs => cases e; exact ⟨_, _, rfl, .of (o.sub _ _ h), hs⟩
  | fz h hs => cases e; exact ⟨_, _, rfl, sqL_sub o.sub h, hs⟩
  | @ref a n h =>
    unfold dL at e
    dsimp only at e
    split at e
    · rename_i ys hy
      cases e
      obtain ⟨vs, h1, h2⟩ := o.obj n _ a hy h
      exact ⟨a, vs, rfl, .of h1, h2⟩
    · cases e
  | _ => cases e
theorem tup_at (o : w.Ok K S) {v : V} {xs : List D} (r : Rep K w.r w.F v (.tup xs)) : ∃ a vs, v = .ref a ∧ SqT K w.H a vs ∧ Reps K w.r w.F vs xs := by
  cases r with
  | tup h hs => exact ⟨_, _, rfl, sqT_sub o.sub h, hs⟩
/-- a list is made: f, never to change; else one that may -/
def mkL (f : Bool) (xs : List D) (S : Sto) : Res D := match f with
  | true => .ok (.lst xs) S
  | false => .ok (.ref S.length) (S ++ [.lst xs])
theorem mkL_ok {f : Bool} {xs : List D} {vs : List V} {Q : VK} (o : w.Ok K S) (h : PoE K W w σ (mkL f xs S) Q) (r : Reps K w.r w.F vs xs) (p : Addr) (hp : w.H p = none) : Q (.ref p) (upd w.H p (.lst vs)) := by
  cases f with
  | true =>
    obtain ⟨o', t⟩ := o.new hp (.lst vs)
    exact h _ _ t o' (.lst upd_same (r.up t.pre t.sub))
  | false =>
    obtain ⟨o', t⟩ := o.mut (x := .lst xs) hp (u := .lst vs) ⟨vs, upd_same, r.up (pre_app _ _) (SubH.refl _)⟩
    refine h _ _ t o' (.ref ?_)
    rw [List.getElem?_append_right (by rw [o.len]; exact Nat.le_refl _), o.len, Nat.sub_self]
    rfl
theorem mkT_ok {xs : List D} {vs : List V} {Q : VK} (o : w.Ok K S) (h : PoE K W w σ (.ok (.tup xs) S) Q) (r : Reps K w.r w.F vs xs) (p : Addr) (hp : w.H p = none) : Q (.ref p) (upd w.H p (.tup vs)) := by
  obtain ⟨o', t⟩ := o.new hp (.tup vs)
  exact h _ _ t o' (.tup (.of upd_same) (r.up t.pre t.sub))
end

/-! ## names, constants -/
section
variable {X : Cx} {B : Bs} {W : WX} {a b c e : Expr} {es : List Expr} {pos : Pos} {ma mb mc : Ed} {mA : Ad}
def mVar (i : Nat) : Ed := fun Γ S => match Γ[i]? with
  | some (some d) => .ok d S
  | _ => .bad
def mC (d : D) : Ed := fun _ S => .ok d S
theorem tr_var (i : Nat) {x : Str} {pos : Pos} (hN : X.N[i]? = some x := by rfl) (hv : Vis X.env.scope x := by first | exact Or.inl rfl | exact Or.inr (Or.inl rfl) | exact Or.inr (Or.inr rfl)) (hd : (x == ("__debug__" : Str)) = false := by decide)
    (hcd : (x == ("__classdict__" : Str)) = false := by decide) : Tr X B W (.Name x pos) (mVar i) := by
  refine imE (pe_var hN hv hd hcd) fun σ H Q h => ?_
  obtain ⟨r, F, Γ, S, o, g, q⟩ := h
  unfold mVar at q
  split at q
  · rename_i d e
    obtain ⟨v, h1, h2⟩ := g.2.2 i d e
    exact ⟨v, h1, q.now o h2⟩
  · exact q.elim
theorem trC {v : V} {d : D} (h : PE X e (tC v)) (r : ∀ r F, Rep X.kw r F v d) : Tr X B W e (mC d) := imE h fun σ H Q ⟨_, _, Γ, S, o, g, q⟩ => q.now o (r _ _)
theorem tr_int {i j pos} : Tr X B W (.Constant (.int i) j pos) (mC (.int i)) := trC pe_int fun _ _ => .int i
theorem tr_bl {i j pos} : Tr X B W (.Constant (.bool i) j pos) (mC (.bl i)) := trC pe_bl fun _ _ => .bl i
theorem tr_non {j pos} : Tr X B W (.Constant .none j pos) (mC .non) := trC pe_non fun _ _ => .non
theorem tr_str {i j pos} : Tr X B W (.Constant (.str i) j pos) (mC (.str i)) := trC pe_str fun _ _ => .str i
theorem tr_gint {x : Str} {i : Int} {t : Tok} {pos : Pos} (hm : X.mg x = some (.int i t)) (hg : Gl X x := by rfl) (hd : (x == ("__debug__" : Str)) = false := by decide) : Tr X B W (.Name x pos) (mC (.int i)) := trC (pe_glob (v := V.int i) hg hm ⟨t, rfl⟩ hd) fun _ _ => .int i
theorem tr_gstr {x : Str} {i : Str} {t : Tok} {pos : Pos} (hm : X.mg x = some (.str i t)) (hg : Gl X x := by rfl) (hd : (x == ("__debug__" : Str)) = false := by decide) : Tr X B W (.Name x pos) (mC (.str i)) := trC (pe_glob (v := V.str i) hg hm ⟨t, rfl⟩ hd) fun _ _ => .str i

/-! ## operators -/
def mOp (f : D → D → Sto → Res D) (a b : Ed) : Ed := fun Γ S => (a Γ S).bind fun x S1 => (b Γ S1).bind fun y S2 => f x y S2
/-- an operator's rule is right for f -/
def SoR (K : Kw) (r : R2) (f : D → D → Sto → Res D) : Prop := ∀ (W : WX) (w : Wd) (σ : L2.St) (S : Sto) (x y : V) (d e : D) (Q : VK), w.Ok K S → Rep K w.r w.F x d → Rep K w.r w.F y e → PoE K W w σ (f d e S) Q → r x y w.H Q
theorem so_op {r : R2} {f : D → D → Sto → Res D} (hr : SoR X.kw r f) {σ : L2.St} {H : Hp} {Q : VK} (h : cE X.kw B W (mOp f ma mb) σ H Q) : tOp r (cE X.kw B W ma) (cE X.kw B W mb) σ H Q := by
  obtain ⟨r0, F, Γ, S, o, g, q⟩ := h
  refine ⟨r0, F, Γ, S, o, g, PoE.bindE q fun d S1 w1 v _ t1 o1 rp1 q1 => ?_⟩
  refine ⟨w1.r, w1.F, Γ, S1, o1, g.step t1, PoE.bindE q1 fun d2 S2 w2 v2 _ t2 o2 rp2 q2 => ?_⟩
  exact hr W w2 σ S2 v v2 d d2 Q o2 (rp1.up t2.pre t2.sub) rp2 q2
theorem tr_op {op : Operator} {r : R2} {f : D → D → Sto → Res D} (ho : OpR X (binaryOp op) r) (hr : SoR X.kw r f) (ha : Tr X B W a ma) (hb : Tr X B W b mb) : Tr X B W (.BinOp a op b pos) (mOp f ma mb) :=
  imE (pe_op ho ha hb) fun σ H Q h => so_op hr h
theorem tr_cmp {op : CmpOp} {r : R2} {f : D → D → Sto → Res D} (ho : OpR X (compareOp op) r) (hr : SoR X.kw r f) (ha : Tr X B W a ma) (hb : Tr X B W b mb) (hm : behindInMarks op b = false := by first | exact nobehind _ (by decide) (by decide) | rfl | with_unfolding_all rfl) : Tr X B W (.Compare a [op] [b] pos) (mOp f ma mb) :=
  imE (pe_cmpR ho ha hb hm) fun σ H Q h => so_op hr h
/-- a value that is a truth, as a test -/
def mT (a : Ed) : Bd := fun Γ S => (a Γ S).bind fun x S1 => match x with
  | .bl b => .ok b S1
  | _ => .bad
theorem so_T {σ : L2.St} {H : Hp} {Q : Bool → Hp → Prop} (h : cB X.kw B W (mT ma) σ H Q) : cE X.kw B W ma σ H (fun x H' => ∃ k, x = .bl k ∧ Q k H') := by
  obtain ⟨r0, F, Γ, S, o, g, q⟩ := h
  refine ⟨r0, F, Γ, S, o, g, PoB.bindE q fun d S1 w1 v _ t1 o1 rp1 q1 => ?_⟩
  cases rp1 with
  | bl b => exact ⟨b, rfl, q1.now o1⟩
  | _ => exact q1.elim
/-- a test whose expression yields a truth -/
theorem tb_val (ha : Tr X B W a ma) (he : ∀ whole, isTrue a X.env whole = (do let v ← whole; standAt a.pos; holding [v] (truthy v)) := by intro _; rfl) : TrB X B W a (mT ma) :=
  imB (pt_val ha he) fun σ H Q h => so_T h
theorem tb_cmp {op : CmpOp} {r : R2} {f : D → D → Sto → Res D} (ho : OpR X (compareOp op) r) (hr : SoR X.kw r f) (ha : Tr X B W a ma) (hb : Tr X B W b mb) (hm : behindInMarks op b = false := by first | exact nobehind _ (by decide) (by decide) | rfl | with_unfolding_all rfl) : TrB X B W (.Compare a [op] [b] pos) (mT (mOp f ma mb)) := by
  refine imB (pt_cmpR ho ha hb hm) fun σ H Q h => ?_
  exact so_op hr (so_T h)
/-- a op b op' c -/
def mCh (f g : D → D → Sto → Res D) (a b c : Ed) : Ed := fun Γ S => (a Γ S).bind fun x S1 => (b Γ S1).bind fun y S2 => (f x y S2).bind fun z S3 => match z with
  | .bl true => (c Γ S3).bind fun u S4 => g y u S4
  | .bl false => .ok (.bl false) S3
  | _ => .bad
theorem so_ch {r r' : R2} {f f' : D → D → Sto → Res D} (hr : SoR X.kw r f) (hr' : SoR X.kw r' f') {σ : L2.St} {H : Hp} {Q : VK} (h : cE X.kw B W (mCh f f' ma mb mc) σ H Q) : tChain r r' (cE X.kw B W ma) (cE X.kw B W mb) (cE X.kw B W mc) σ H Q := by
  obtain ⟨r0, F, Γ, S, o, g, q⟩ := h
  refine ⟨r0, F, Γ, S, o, g, PoE.bindE q fun d S1 w1 v _ t1 o1 rp1 q1 => ?_⟩
  refine ⟨w1.r, w1.F, Γ, S1, o1, g.step t1, PoE.bindE q1 fun d2 S2 w2 v2 _ t2 o2 rp2 q2 => ?_⟩
  refine hr W w2 σ S2 v v2 d d2 _ o2 (rp1.up t2.pre t2.sub) rp2 (PoE.bindE q2 fun d3 S3 w3 v3 _ t3 o3 rp3 q3 => ?_)
  cases rp3 with
  | bl b =>
    refine ⟨b, rfl, ?_⟩
    cases b with
    | true =>
      rw [if_pos rfl]
      refine ⟨w3.r, w3.F, Γ, S3, o3, (g.step t1).step (t2.trans t3), PoE.bindE q3 fun d4 S4 w4 v4 _ t4 o4 rp4 q4 => ?_⟩
      exact hr' W w4 σ S4 v2 v4 d2 d4 Q o4 (rp2.up (t3.trans t4).pre (t3.trans t4).sub) rp4 q4
    | false =>
      rw [if_neg Bool.false_ne_true]
      exact q3.now o3 (.bl false)
  | _ => exact q3.elim
theorem tr_chain {op op' : CmpOp} {r r' : R2} {f f' : D → D → Sto → Res D} (ho : OpR X (compareOp op) r) (hr : SoR X.kw r f) (ho' : OpR X (compareOp op') r') (hr' : SoR X.kw r' f') (ha : Tr X B W a ma) (hb : Tr X B W b mb) (hc : Tr X B W c mc)
    (hm : lastMarks [op, op'] [b, c] = false := by with_unfolding_all rfl) : Tr X B W (.Compare a [op, op'] [b, c] pos) (mCh f f' ma mb mc) := imE (pe_chain ho ho' ha hb hc hm) fun σ H Q h => so_ch hr hr' h
theorem tb_chain {op op' : CmpOp} {r r' : R2} {f f' : D → D → Sto → Res D} (ho : OpR X (compareOp op) r) (hr : SoR X.kw r f) (ho' : OpR X (compareOp op') r') (hr' : SoR X.kw r' f') (ha : Tr X B W a ma) (hb : Tr X B W b mb) (hc : Tr X B W c mc)
    (hm : lastMarks [op, op'] [b, c] = false := by with_unfolding_all rfl) : TrB X B W (.Compare a [op, op'] [b, c] pos) (mT (mCh f f' ma mb mc)) := by
  refine imB (pt_chain ho ho' ha hb hc hm) fun σ H Q h => ?_
  exact so_ch hr hr' (so_T h)
/-! and, or, not -/
variable {mB mB' : Bd} {rest : List Expr}
def mAnd (a b : Bd) : Bd := fun Γ S => (a Γ S).bind fun x S1 => match x with
  | true => b Γ S1
  | false => .ok false S1
def mOr (a b : Bd) : Bd := fun Γ S => (a Γ S).bind fun x S1 => match x with
  | true => .ok true S1
  | false => b Γ S1
def mNot (a : Bd) : Bd := fun Γ S => (a Γ S).bind fun x S1 => .ok (!x) S1
theorem tw_and1 (ha : TrB X B W a mB) : TrW X B W (.BoolOp .And [a] pos) mB := pw_and1 ha
theorem tw_or1 (ha : TrB X B W a mB) : TrW X B W (.BoolOp .Or [a] pos) mB := pw_or1 ha
theorem tw_and (ha : TrB X B W a mB) (hb : TrW X B W (.BoolOp .And (b :: rest) pos) mB') : TrW X B W (.BoolOp .And (a :: b :: rest) pos) (mAnd mB mB') := by
  refine imW (pw_and ha hb) fun σ H Q h => ?_
  obtain ⟨r0, F, Γ, S, o, g, q⟩ := h
  refine ⟨r0, F, Γ, S, o, g, PoB.bindB q fun d S1 w1 _ t1 o1 q1 => ?_⟩
  cases d with
  | true =>
    rw [if_pos rfl]
    exact ⟨w1.r, w1.F, Γ, S1, o1, g.step t1, q1⟩
  | false =>
    rw [if_neg Bool.false_ne_true]
    exact q1.now o1
theorem tw_or (ha : TrB X B W a mB) (hb : TrW X B W (.BoolOp .Or (b :: rest) pos) mB') : TrW X B W (.BoolOp .Or (a :: b :: rest) pos) (mOr mB mB') := by
  refine imW (pw_or ha hb) fun σ H Q h => ?_
  obtain ⟨r0, F, Γ, S, o, g, q⟩ := h
  refine ⟨r0, F, Γ, S, o, g, PoB.bindB q fun d S1 w1 _ t1 o1 q1 => ?_⟩
  cases d with
  | false =>
    rw [if_neg Bool.false_ne_true]
    exact ⟨w1.r, w1.F, Γ, S1, o1, g.step t1, q1⟩
  | true =>
    rw [if_pos rfl]
    exact q1.now o1
theorem tb_w {m : Bd} (h : TrW X B W e m) : TrB X B W e m := PW.pt h
theorem tb_not (ha : TrB X B W a mB) : TrB X B W (.UnaryOp .Not a pos) (mNot mB) := by
  refine imB (pt_not ha) fun σ H Q h => ?_
  obtain ⟨r0, F, Γ, S, o, g, q⟩ := h
  exact ⟨r0, F, Γ, S, o, g, PoB.bindB q fun d S1 w1 _ t1 o1 q1 => q1.now o1⟩
/-- .. as values, each part a truth -/
def vAnd (a b : Ed) : Ed := fun Γ S => (a Γ S).bind fun x S1 => match x with
  | .bl true => b Γ S1
  | .bl false => .ok (.bl false) S1
  | _ => .bad
def vOr (a b : Ed) : Ed := fun Γ S => (a Γ S).bind fun x S1 => match x with
  | .bl true => .ok (.bl true) S1
  | .bl false => b Γ S1
  | _ => .bad
def vNot (a : Ed) : Ed := fun Γ S => (a Γ S).bind fun x S1 => match x with
  | .bl b => .ok (.bl (!b)) S1
  | _ => .bad
theorem tr_one {op} (ha : Tr X B W a ma) : Tr X B W (.BoolOp op [a] pos) ma := pe_one ha
theorem tr_and (ha : Tr X B W a ma) (hb : Tr X B W (.BoolOp .And (b :: rest) pos) mb) : Tr X B W (.BoolOp .And (a :: b :: rest) pos) (vAnd ma mb) := by
  refine imE (pe_and ha hb) fun σ H Q h => ?_
  obtain ⟨r0, F, Γ, S, o, g, q⟩ := h
  refine ⟨r0, F, Γ, S, o, g, PoE.bindE q fun d S1 w1 v _ t1 o1 rp1 q1 => ?_⟩
  cases rp1 with
  | bl b =>
    refine ⟨b, rfl, ?_⟩
    cases b with
    | true =>
      rw [if_pos rfl]
      exact ⟨w1.r, w1.F, Γ, S1, o1, g.step t1, q1⟩
    | false =>
      rw [if_neg Bool.false_ne_true]
      exact q1.now o1 (.bl false)
  | _ => exact q1.elim
theorem tr_or (ha : Tr X B W a ma) (hb : Tr X B W (.BoolOp .Or (b :: rest) pos) mb) : Tr X B W (.BoolOp .Or (a :: b :: rest) pos) (vOr ma mb) := by
  refine imE (pe_or ha hb) fun σ H Q h => ?_
  obtain ⟨r0, F, Γ, S, o, g, q⟩ := h
  refine ⟨r0, F, Γ, S, o, g, PoE.bindE q fun d S1 w1 v _ t1 o1 rp1 q1 => ?_⟩
  cases rp1 with
  | bl b =>
    refine ⟨b, rfl, ?_⟩
    cases b with
    | false =>
      rw [if_neg Bool.false_ne_true]
      exact ⟨w1.r, w1.F, Γ, S1, o1, g.step t1, q1⟩
    | true =>
      rw [if_pos rfl]
      exact q1.now o1 (.bl true)
  | _ => exact q1.elim
theorem tr_not (ha : Tr X B W a ma) : Tr X B W (.UnaryOp .Not a pos) (vNot ma) := by
  refine imE (pe_not ha) fun σ H Q h => ?_
  obtain ⟨r0, F, Γ, S, o, g, q⟩ := h
  refine ⟨r0, F, Γ, S, o, g, PoE.bindE q fun d S1 w1 v _ t1 o1 rp1 q1 => ?_⟩
  cases rp1 with
  | bl b => exact ⟨b, rfl, q1.now o1 (.bl (!b))⟩
  | _ => exact q1.elim
def mIf (t : Bd) (a b : Ed) : Ed := fun Γ S => (t Γ S).bind fun x S1 => match x with
  | true => a Γ S1
  | false => b Γ S1
theorem tr_if {t : Expr} (ht : TrB X B W t mB) (ha : Tr X B W a ma) (hb : Tr X B W b mb) : Tr X B W (.IfExp t a b pos) (mIf mB ma mb) := by
  refine imE (pe_ifExp ht ha hb) fun σ H Q h => ?_
  obtain ⟨r0, F, Γ, S, o, g, q⟩ := h
  refine ⟨r0, F, Γ, S, o, g, PoE.bindB q fun d S1 w1 _ t1 o1 q1 => ?_⟩
  cases d with
  | true =>
    rw [if_pos rfl]
    exact ⟨w1.r, w1.F, Γ, S1, o1, g.step t1, q1⟩
  | false =>
    rw [if_neg Bool.false_ne_true]
    exact ⟨w1.r, w1.F, Γ, S1, o1, g.step t1, q1⟩

/-! ## arguments, displays -/
def aNil : Ad := fun _ S => .ok [] S
def aCons (a : Ed) (b : Ad) : Ad := fun Γ S => (a Γ S).bind fun x S1 => (b Γ S1).bind fun xs S2 => .ok (x :: xs) S2
def dSq (S : Sto) : D → Option (List D)
  | .tup xs => some xs
  | d => dL S d
theorem dSq_at {w : Wd} {S : Sto} {K : Kw} (o : w.Ok K S) {v : V} {d : D} (r : Rep K w.r w.F v d) {xs : List D} (e : dSq S d = some xs) : ∃ a vs, v = .ref a ∧ (SqT K w.H a vs ∨ SqL K w.H a vs) ∧ Reps K w.r w.F vs xs := by
  have h2 : ∀ (_ : dL S d = some xs), ∃ a vs, v = .ref a ∧ (SqT K w.H a vs ∨ SqL K w.H a vs) ∧ Reps K w.r w.F vs xs := fun e2 => by
    obtain ⟨a, vs, h1, h3, h4⟩ := dL_at o r e2
    exact ⟨a, vs, h1, .inr h3, h4⟩
  cases d with
  | tup ys =>
    cases e
    obtain ⟨a, vs, h1, h3, h4⟩ := tup_at o r
    exact ⟨a, vs, h1, .inl h3, h4⟩
  | _ => exact h2 e
def aStar (a : Ed) (b : Ad) : Ad := fun Γ S => (a Γ S).bind fun x S1 => match dSq S1 x with
  | some ys => (b Γ S1).bind fun xs S2 => .ok (ys ++ xs) S2
  | none => .bad
theorem ta_nil : TrA X B W [] aNil := imA pa_nil fun σ H Q ⟨_, _, Γ, S, o, g, q⟩ => q _ _ (Step.refl _) o .nil
theorem ta_cons (ha : Tr X B W a ma) (hr : TrA X B W es mA) (hs : starEach (a :: es) X.env = (false, eval a X.env) :: starEach es X.env := by rfl) : TrA X B W (a :: es) (aCons ma mA) := by
  refine imA (pa_cons ha hr hs) fun σ H Q h => ?_
  obtain ⟨r0, F, Γ, S, o, g, q⟩ := h
  refine ⟨r0, F, Γ, S, o, g, PoA.bindE q fun d S1 w1 v _ t1 o1 rp1 q1 => ?_⟩
  refine ⟨w1.r, w1.F, Γ, S1, o1, g.step t1, PoA.bindA q1 fun d2 S2 w2 v2 _ t2 o2 rp2 q2 => ?_⟩
  exact q2 _ _ (Step.refl _) o2 (.cons (rp1.up t2.pre t2.sub) rp2)
theorem ta_star {p : Pos} (ha : Tr X B W a ma) (hr : TrA X B W es mA) (hs : starEach (.Starred a p :: es) X.env = (true, eval a X.env) :: starEach es X.env := by rfl) : TrA X B W (.Starred a p :: es) (aStar ma mA) := by
  refine imA (StX.pa_star ha hr hs) fun σ H Q h => ?_
  obtain ⟨r0, F, Γ, S, o, g, q⟩ := h
  refine ⟨r0, F, Γ, S, o, g, PoA.bindE q fun d S1 w1 v _ t1 o1 rp1 q1 => ?_⟩
  cases e : dSq S1 d with
  | none => rw [e] at q1; exact q1.elim
  | some ys =>
    rw [e] at q1
    obtain ⟨a, vs, rfl, h3, h4⟩ := dSq_at o1 rp1 e
    refine ⟨a, vs, rfl, h3, w1.r, w1.F, Γ, S1, o1, g.step t1, PoA.bindA q1 fun d2 S2 w2 v2 _ t2 o2 rp2 q2 => ?_⟩
    exact q2 _ _ (Step.refl _) o2 ((h4.up t2.pre t2.sub).app rp2)
/-- the longest list, tuple, text that we make -/
def big : Nat := 1000000
theorem big_le {n : Nat} (h : n ≤ big) : n ≤ sizeLine := Nat.le_trans h (by decide)
theorem big_lt {n : Nat} (h : n < big) : n < sizeLine := Nat.lt_of_lt_of_le h (by decide)
def mTup (a : Ad) : Ed := fun Γ S => (a Γ S).bind fun xs S1 => if xs.length ≤ big then .ok (.tup xs) S1 else .bad
def mLst (f : Bool) (a : Ad) : Ed := fun Γ S => (a Γ S).bind fun xs S1 => if xs.length ≤ big then mkL f xs S1 else .bad
theorem tr_tup {x1} (h : TrA X B W es mA) : Tr X B W (.Tuple es x1 pos) (mTup mA) := by
  refine imE (pe_tup h) fun σ H Q h => ?_
  obtain ⟨r0, F, Γ, S, o, g, q⟩ := h
  refine ⟨r0, F, Γ, S, o, g, PoE.bindA q fun d S1 w1 v _ t1 o1 rp1 q1 => ?_⟩
  split at q1
  · rename_i hz
    exact ⟨big_le (by rw [rp1.len]; exact hz), fun p hp => mkT_ok o1 q1 rp1 p hp⟩
  · exact q1.elim
theorem tr_lst (f : Bool) (h : TrA X B W es mA) : Tr X B W (.List es pos) (mLst f mA) := by
  refine imE (pe_lst h) fun σ H Q h => ?_
  obtain ⟨r0, F, Γ, S, o, g, q⟩ := h
  refine ⟨r0, F, Γ, S, o, g, PoE.bindA q fun d S1 w1 v _ t1 o1 rp1 q1 => ?_⟩
  split at q1
  · rename_i hz
    exact ⟨big_le (by rw [rp1.len]; exact hz), fun p hp => mkL_ok o1 q1 rp1 p hp⟩
  · exact q1.elim
end
end Fx
end

section
set_option Elab.async false
set_option linter.all false
set_option maxRecDepth 100000
set_option maxHeartbeats 2000000
namespace Fx
open PySem PySem.Spec PyProof.Rows L2
variable [Nam]

theorem OpR.or {X : Cx} {f : Value → Value → Sem Value} {r r' : R2} (h : OpR X f r) (h' : OpR X f r') : OpR X f (fun x y H Q => r x y H Q ∨ r' x y H Q) := by
  intro pins s σ H x y v u Q I rx ry q
  rcases q with q | q
  · exact h pins s σ H x y v u Q I rx ry q
  · exact h' pins s σ H x y v u Q I rx ry q
theorem CallR.or {X : Cx} {f : Value} {r r' : List V → Hp → VK → Prop} (h : CallR X f r) (h' : CallR X f r') : CallR X f (fun xs H Q => r xs H Q ∨ r' xs H Q) := by
  intro pins s σ H xs us Q I r q
  rcases q with q | q
  · exact h pins s σ H xs us Q I r q
  · exact h' pins s σ H xs us Q I r q

section
variable {X : Cx} {K : Kw}
/-! ### ints -/
def dII (g : Int → Int → D) (x y : D) (S : Sto) : Res D := match x, y with
  | .int i, .int j => .ok (g i j) S
  | _, _ => .bad
def dIC (C : Int → Int → Prop) [∀ i j, Decidable (C i j)] (g : Int → Int → Int) (x y : D) (S : Sto) : Res D := match x, y with
  | .int i, .int j => if C i j then .ok (.int (g i j)) S else .bad
  | _, _ => .bad
theorem so_I0 {g : Int → Int → Int} : SoR K (rI0 fun i j => .int (g i j)) (dII fun i j => .int (g i j)) := by
  intro W w σ S x y d e Q o rx ry h
  cases rx with
  | int i =>
    cases ry with
    | int j => exact ⟨i, j, rfl, rfl, h.now o (.int _)⟩
    | _ => exact h.elim
  | _ => cases ry <;> exact h.elim
theorem so_B0 {g : Int → Int → Bool} : SoR K (rI0 fun i j => .bl (g i j)) (dII fun i j => .bl (g i j)) := by
  intro W w σ S x y d e Q o rx ry h
  cases rx with
  | int i =>
    cases ry with
    | int j => exact ⟨i, j, rfl, rfl, h.now o (.bl _)⟩
    | _ => exact h.elim
  | _ => cases ry <;> exact h.elim
theorem so_I {C : Int → Int → Prop} [∀ i j, Decidable (C i j)] {g : Int → Int → Int} : SoR K (rI C fun i j => .int (g i j)) (dIC C g) := by
  intro W w σ S x y d e Q o rx ry h
  cases rx with
  | int i =>
    cases ry with
    | int j =>
      unfold dIC at h
      dsimp only at h
      split at h
      · rename_i hc
        exact ⟨i, j, rfl, rfl, hc, h.now o (.int _)⟩
      · exact h.elim
    | _ => exact h.elim
  | _ => cases ry <;> exact h.elim
instance : ∀ i j, Decidable (CMul i j) := fun i j => by unfold CMul; infer_instance
instance : ∀ i j, Decidable (CDiv i j) := fun i j => by unfold CDiv; infer_instance
instance : ∀ i j, Decidable (CPow i j) := fun i j => by unfold CPow; infer_instance
abbrev dSub := dII fun i j => .int (i - j)
abbrev dMul := dIC CMul fun i j => i * j
abbrev dDiv := dIC CDiv fun i j => i / j
abbrev dMod := dIC (fun _ j => 0 < j) fun i j => i % j
abbrev dPow := dIC CPow fun i j => i ^ j.toNat
abbrev dLt := dII fun i j => .bl (decide (i < j))
abbrev dLe := dII fun i j => .bl (decide (i ≤ j))
abbrev dGt := dII fun i j => .bl (decide (j < i))
abbrev dGe := dII fun i j => .bl (decide (j ≤ i))
variable {B : Bs} {W : WX} {a b c e : Expr} {es : List Expr} {pos : Pos} {ma mb mc : Ed} {mA : Ad}
theorem tr_sub (ha : Tr X B W a ma) (hb : Tr X B W b mb) : Tr X B W (.BinOp a .Sub b pos) (mOp dSub ma mb) := tr_op op_sub so_I0 ha hb
theorem tr_mul (ha : Tr X B W a ma) (hb : Tr X B W b mb) : Tr X B W (.BinOp a .Mult b pos) (mOp dMul ma mb) := tr_op op_mul so_I ha hb
theorem tr_div (ha : Tr X B W a ma) (hb : Tr X B W b mb) : Tr X B W (.BinOp a .FloorDiv b pos) (mOp dDiv ma mb) := tr_op op_fdiv so_I ha hb
theorem tr_mod (ha : Tr X B W a ma) (hb : Tr X B W b mb) : Tr X B W (.BinOp a .Mod b pos) (mOp dMod ma mb) := tr_op op_mod so_I ha hb
theorem tr_pow (ha : Tr X B W a ma) (hb : Tr X B W b mb) : Tr X B W (.BinOp a .Pow b pos) (mOp dPow ma mb) := tr_op op_pow so_I ha hb
theorem tr_lt (ha : Tr X B W a ma) (hb : Tr X B W b mb) : Tr X B W (.Compare a [.Lt] [b] pos) (mOp dLt ma mb) := tr_cmp op_lt so_B0 ha hb
theorem tr_le (ha : Tr X B W a ma) (hb : Tr X B W b mb) : Tr X B W (.Compare a [.LtE] [b] pos) (mOp dLe ma mb) := tr_cmp op_le so_B0 ha hb
theorem tr_gt (ha : Tr X B W a ma) (hb : Tr X B W b mb) : Tr X B W (.Compare a [.Gt] [b] pos) (mOp dGt ma mb) := tr_cmp op_gt so_B0 ha hb
theorem tr_ge (ha : Tr X B W a ma) (hb : Tr X B W b mb) : Tr X B W (.Compare a [.GtE] [b] pos) (mOp dGe ma mb) := tr_cmp op_ge so_B0 ha hb
theorem tb_lt (ha : Tr X B W a ma) (hb : Tr X B W b mb) : TrB X B W (.Compare a [.Lt] [b] pos) (mT (mOp dLt ma mb)) := tb_cmp op_lt so_B0 ha hb
theorem tb_le (ha : Tr X B W a ma) (hb : Tr X B W b mb) : TrB X B W (.Compare a [.LtE] [b] pos) (mT (mOp dLe ma mb)) := tb_cmp op_le so_B0 ha hb
theorem tb_gt (ha : Tr X B W a ma) (hb : Tr X B W b mb) : TrB X B W (.Compare a [.Gt] [b] pos) (mT (mOp dGt ma mb)) := tb_cmp op_gt so_B0 ha hb
theorem tb_ge (ha : Tr X B W a ma) (hb : Tr X B W b mb) : TrB X B W (.Compare a [.GtE] [b] pos) (mT (mOp dGe ma mb)) := tb_cmp op_ge so_B0 ha hb
/-- -a -/
def mUn (f : D → Sto → Res D) (a : Ed) : Ed := fun Γ S => (a Γ S).bind f
def dNeg (x : D) (S : Sto) : Res D := match x with
  | .int i => .ok (.int (-i)) S
  | _ => .bad
theorem tr_neg (ha : Tr X B W a ma) : Tr X B W (.UnaryOp .USub a pos) (mUn dNeg ma) := by
  refine imE (pe_un un_neg ha) fun σ H Q h => ?_
  obtain ⟨r0, F, Γ, S, o, g, q⟩ := h
  refine ⟨r0, F, Γ, S, o, g, PoE.bindE q fun d S1 w1 v _ t1 o1 rp1 q1 => ?_⟩
  cases rp1 with
  | int i => exact ⟨i, rfl, q1.now o1 (.int _)⟩
  | _ => exact q1.elim

/-! ### + -/
def dAdd (f : Bool) (x y : D) (S : Sto) : Res D := match x, y with
  | .int i, .int j => .ok (.int (i + j)) S
  | .str a, .str b => if a.length + b.length ≤ big then .ok (.str (a ++ b)) S else .bad
  | .str a, .opq n => if a.length + n ≤ big then .ok (.opq (a.length + n)) S else .bad
  | .opq n, .str a => if n + a.length ≤ big then .ok (.opq (n + a.length)) S else .bad
  | .tup a, .tup b => if a.length + b.length ≤ big then .ok (.tup (a ++ b)) S else .bad
  | x, y => match dLs S x, dLs S y with
    | some a, some b => if a.length + b.length ≤ big then mkL f (a ++ b) S else .bad
    | _, _ => .bad
def rAddA (K : Kw) : R2 := fun x y H Q => (rI0 (fun i j => .int (i + j)) x y H Q ∨ (∃ i j, x = .str i ∧ y = .str j ∧ i.length + j.length ≤ sizeLine ∧ Q (.str (i ++ j)) H)) ∨ (rCatA K x y H Q ∨ rCat x y H Q)
theorem op_addA : OpR X (binaryOp .Add) (rAddA X.kw) := OpR.or (OpR.or op_add op_add_str) (OpR.or op_catA op_cat)
theorem str_app_len (a b : Str) : (a ++ b).length = a.length + b.length := by
  show (a.cps ++ b.cps).size = a.cps.size + b.cps.size
  rw [Array.size_append]
theorem so_addL {f : Bool} {w : Wd} {σ : L2.St} {S : Sto} {x y : V} {d e : D} {Q : VK} (o : w.Ok K S) (rx : Rep K w.r w.F x d) (ry : Rep K w.r w.F y e)
    (h : PoE K W w σ (match dLs S d, dLs S e with | some a, some b => if a.length + b.length ≤ big then mkL f (a ++ b) S else .bad | _, _ => .bad) Q) : rAddA K x y w.H Q := by
  cases e1 : dLs S d with
  | none => rw [e1] at h; exact h.elim
  | some l =>
    cases e2 : dLs S e with
    | none => rw [e1, e2] at h; exact h.elim
    | some m =>
      rw [e1, e2] at h
      dsimp only at h
      split at h
      · rename_i hz
        obtain ⟨a, vs, rfl, h3, h4⟩ := dLs_at o rx e1
        obtain ⟨b, us, rfl, h5, h6⟩ := dLs_at o ry e2
        exact .inr (.inr ⟨a, b, vs, us, rfl, rfl, h3, h5, big_le (by rw [h4.len, h6.len]; exact hz), fun p hp => mkL_ok o h (h4.app h6) p hp⟩)
      · exact h.elim
theorem so_add {f : Bool} : SoR K (rAddA K) (dAdd f) := by
  intro W w σ S x y d e Q o rx ry h
  cases rx with
  | int i =>
    cases ry with
    | int j => exact .inl (.inl ⟨i, j, rfl, rfl, h.now o (.int _)⟩)
    | _ => exact h.elim
  | str i =>
    cases ry with
    | str j =>
      unfold dAdd at h
      dsimp only at h
      split at h
      · rename_i hz
        exact .inl (.inr ⟨i, j, rfl, rfl, big_le hz, h.now o (.str _)⟩)
      · exact h.elim
    | @opq j n hj =>
      unfold dAdd at h
      dsimp only at h
      split at h
      · rename_i hz
        exact .inl (.inr ⟨i, j, rfl, rfl, big_le (by omega), h.now o (.opq (by rw [str_app_len]; omega))⟩)
      · exact h.elim
    | _ => exact h.elim
  | @opq i n hi =>
    cases ry with
    | str j =>
      unfold dAdd at h
      dsimp only at h
      split at h
      · rename_i hz
        exact .inl (.inr ⟨i, j, rfl, rfl, big_le (by omega), h.now o (.opq (by rw [str_app_len]; omega))⟩)
      · exact h.elim
    | _ => exact h.elim
  | @tup p vs l hp hs =>
    cases ry with
    | @tup p2 us m hp2 hs2 =>
      unfold dAdd at h
      dsimp only at h
      split at h
      · rename_i hz
        refine .inr (.inl ⟨p, p2, vs, us, rfl, rfl, sqT_sub o.sub hp, sqT_sub o.sub hp2, big_le (by rw [hs.len, hs2.len]; exact hz), fun e => ?_, fun e e2 => ?_, fun e e2 p3 hp3 => ?_⟩)
        · subst e
          have := hs.len
          cases l with
          | nil => exact h.now o (.tup hp2 hs2)
          | cons _ _ => cases this
        · subst e2
          have := hs2.len
          cases m with
          | nil => exact h.now o (.tup hp (by rw [List.append_nil]; exact hs))
          | cons _ _ => cases this
        · exact mkT_ok o h (hs.app hs2) p3 hp3
      · exact h.elim
    | _ => exact h.elim
  | non => exact h.elim
  | bl _ => exact h.elim
  | adr _ => exact h.elim
  | dct _ _ _ _ => exact h.elim
  | fz h1 h2 => exact so_addL (f := f) o (.fz h1 h2) ry h
  | lst h1 h2 => exact so_addL (f := f) o (.lst h1 h2) ry h
  | ref h1 => exact so_addL (f := f) o (.ref h1) ry h
theorem tr_add (f : Bool) (ha : Tr X B W a ma) (hb : Tr X B W b mb) : Tr X B W (.BinOp a .Add b pos) (mOp (dAdd f) ma mb) := tr_op op_addA so_add ha hb

/-! ### ==, != -/
mutual
def toPy : D → Option PyData
  | .non => some .none
  | .bl b => some (.bool b)
  | .int i => some (.int i)
  | .str x => some (.str x)
  | .tup xs => (toPys xs).map .tuple
  | .lst xs => (toPys xs).map .list
  | .fz xs => (toPys xs).map .list
  | _ => none
def toPys : List D → Option (List PyData)
  | [] => some []
  | x :: xs => match toPy x, toPys xs with
    | some a, some b => some (a :: b)
    | _, _ => none
end
def toPyS (S : Sto) : D → Option PyData
  | .ref n => match S[n]? with
    | some (.lst xs) => (toPys xs).map .list
    | _ => none
  | d => toPy d
mutual
theorem dp_of {w : Wd} {S : Sto} (o : w.Ok K S) : ∀ {v : V} {d : D} {p : PyData}, Rep K w.r w.F v d → toPy d = some p → Dp K w.H v p
  | _, _, _, .non, e => by cases e; exact .non
  | _, _, _, .bl b, e => by cases e; exact .bl b
  | _, _, _, .int i, e => by cases e; exact .int i
  | _, _, _, .str x, e => by cases e; exact .str x
  | _, .tup ds, _, .tup h hs, e => by
    unfold toPy at e
    cases e2 : toPys ds with
    | none => rw [e2] at e; cases e
    | some l => rw [e2] at e; cases e; exact .tup (sqT_sub o.sub h) (dps_of o hs e2)
  | _, .lst ds, _, .lst h hs, e => by
    unfold toPy at e
    cases e2 : toPys ds with
    | none => rw [e2] at e; cases e
    | some l => rw [e2] at e; cases e; exact .lst (.of (o.sub _ _ h)) (dps_of o hs e2)
  | _, .fz ds, _, .fz h hs, e => by
    unfold toPy at e
    cases e2 : toPys ds with
    | none => rw [e2] at e; cases e
    | some l => rw [e2] at e; cases e; exact .lst (sqL_sub o.sub h) (dps_of o hs e2)
  | _, _, _, .ref _, e => by cases e
  | _, _, _, .opq _, e => by cases e
  | _, _, _, .adr _, e => by cases e
  | _, _, _, .dct _ _ _ _, e => by cases e
theorem dps_of {w : Wd} {S : Sto} (o : w.Ok K S) : ∀ {v : List V} {d : List D} {p : List PyData}, Reps K w.r w.F v d → toPys d = some p → DpAll K w.H v p
  | _, _, _, .nil, e => by cases e; exact .nil
  | _, d :: ds, _, .cons h hs, e => by
    unfold toPys at e
    cases e1 : toPy d with
    | none => rw [e1] at e; cases e
    | some a =>
      cases e2 : toPys ds with
      | none => rw [e1, e2] at e; cases e
      | some l => rw [e1, e2] at e; cases e; exact .cons (dp_of o h e1) (dps_of o hs e2)
end
theorem dpS_of {w : Wd} {S : Sto} (o : w.Ok K S) {v : V} {d : D} {p : PyData} (r : Rep K w.r w.F v d) (e : toPyS S d = some p) : Dp K w.H v p := by
  cases r with
  | @ref a n h =>
    unfold toPyS at e
    dsimp only at e
    split at e
    · rename_i xs hx
      cases e2 : toPys xs with
      | none => rw [e2] at e; cases e
      | some l =>
        rw [e2] at e
        cases e
        obtain ⟨vs, h1, h2⟩ := o.obj n _ a hx h
        exact .lst (.of h1) (dps_of o h2 e2)
    · cases e
  | non => exact dp_of o .non e
  | bl b => exact dp_of o (.bl b) e
  | int b => exact dp_of o (.int b) e
  | str b => exact dp_of o (.str b) e
  | tup h hs => exact dp_of o (.tup h hs) e
  | lst h hs => exact dp_of o (.lst h hs) e
  | fz h hs => exact dp_of o (.fz h hs) e
  | opq h => cases e
  | adr h => cases e
  | dct _ _ _ _ => cases e
def dEqG (n : Bool) (x y : D) (S : Sto) : Res D := match toPyS S x, toPyS S y with
  | some d, some e => if SeqAt.shaped d = true ∧ SeqAt.shaped e = true then .ok (.bl (if n then !PyData.eqv d e else PyData.eqv d e)) S else .bad
  | _, _ => .bad
abbrev dEq := dEqG false
abbrev dNe := dEqG true
theorem so_eqG {n : Bool} : SoR K (fun x y H Q => ∃ d e, Dp K H x d ∧ Dp K H y e ∧ SeqAt.shaped d = true ∧ SeqAt.shaped e = true ∧ Q (.bl (if n then !PyData.eqv d e else PyData.eqv d e)) H) (dEqG n) := by
  intro W w σ S x y d e Q o rx ry h
  unfold dEqG at h
  cases e1 : toPyS S d with
  | none => rw [e1] at h; exact h.elim
  | some l =>
    cases e2 : toPyS S e with
    | none => rw [e1, e2] at h; exact h.elim
    | some m =>
      rw [e1, e2] at h
      dsimp only at h
      split at h
      · rename_i hz
        exact ⟨l, m, dpS_of o rx e1, dpS_of o ry e2, hz.1, hz.2, h.now o (.bl _)⟩
      · exact h.elim
theorem so_eq : SoR K (rEqD K) dEq := fun W w σ S x y d e Q o rx ry h => so_eqG (n := false) W w σ S x y d e Q o rx ry h
theorem so_ne : SoR K (rNeD K) dNe := fun W w σ S x y d e Q o rx ry h => so_eqG (n := true) W w σ S x y d e Q o rx ry h
theorem tr_eq {k : Nat} (hr : Room k X.A) (ha : Tr X B W a ma) (hb : Tr X B W b mb) : Tr X B W (.Compare a [.Eq] [b] pos) (mOp dEq ma mb) := tr_cmp (op_eqD hr.units) so_eq ha hb
theorem tr_ne {k : Nat} (hr : Room k X.A) (ha : Tr X B W a ma) (hb : Tr X B W b mb) : Tr X B W (.Compare a [.NotEq] [b] pos) (mOp dNe ma mb) := tr_cmp (op_neD hr.units) so_ne ha hb
theorem tb_eq {k : Nat} (hr : Room k X.A) (ha : Tr X B W a ma) (hb : Tr X B W b mb) : TrB X B W (.Compare a [.Eq] [b] pos) (mT (mOp dEq ma mb)) := tb_cmp (op_eqD hr.units) so_eq ha hb
theorem tb_ne {k : Nat} (hr : Room k X.A) (ha : Tr X B W a ma) (hb : Tr X B W b mb) : TrB X B W (.Compare a [.NotEq] [b] pos) (mT (mOp dNe ma mb)) := tb_cmp (op_neD hr.units) so_ne ha hb

/-! ### is None -/
def isNon : D → Bool
  | .non => true
  | _ => false
def dIs (n : Bool) (x y : D) (S : Sto) : Res D := match y with
  | .non => .ok (.bl (if n then !isNon x else isNon x)) S
  | _ => .bad
theorem rep_non {w : Wd} {v : V} {d : D} (r : Rep K w.r w.F v d) : decide (v = .non) = isNon d := by
  cases r <;> first | rfl | exact decide_eq_false (fun z => nomatch z)
theorem so_is : SoR K (fun x y H Q => y = .non ∧ Q (.bl (decide (x = .non))) H) (dIs false) := by
  intro W w σ S x y d e Q o rx ry h
  cases ry with
  | non => exact ⟨rfl, by rw [rep_non rx]; exact h.now o (.bl _)⟩
  | _ => exact h.elim
theorem so_isn : SoR K (fun x y H Q => y = .non ∧ Q (.bl (!decide (x = .non))) H) (dIs true) := by
  intro W w σ S x y d e Q o rx ry h
  cases ry with
  | non => exact ⟨rfl, by rw [rep_non rx]; exact h.now o (.bl _)⟩
  | _ => exact h.elim
theorem tr_is (ha : Tr X B W a ma) (hb : Tr X B W b mb) : Tr X B W (.Compare a [.Is] [b] pos) (mOp (dIs false) ma mb) := tr_cmp op_isN so_is ha hb
theorem tr_isn (ha : Tr X B W a ma) (hb : Tr X B W b mb) : Tr X B W (.Compare a [.IsNot] [b] pos) (mOp (dIs true) ma mb) := tr_cmp op_notN so_isn ha hb
theorem tb_is (ha : Tr X B W a ma) (hb : Tr X B W b mb) : TrB X B W (.Compare a [.Is] [b] pos) (mT (mOp (dIs false) ma mb)) := tb_cmp op_isN so_is ha hb
theorem tb_isn (ha : Tr X B W a ma) (hb : Tr X B W b mb) : TrB X B W (.Compare a [.IsNot] [b] pos) (mT (mOp (dIs true) ma mb)) := tb_cmp op_notN so_isn ha hb

/-! ### in, not in -/
def toFl : D → Option V
  | .non => some .non
  | .bl b => some (.bl b)
  | .int i => some (.int i)
  | .str x => some (.str x)
  | _ => none
theorem toFl_of {w : Wd} {v : V} {d : D} {u : V} (r : Rep K w.r w.F v d) (e : toFl d = some u) : v = u ∧ flatV u = true := by
  cases r <;> first | (cases e; exact ⟨rfl, rfl⟩) | cases e
def toFls : List D → Option (List V)
  | [] => some []
  | x :: xs => match toFl x, toFls xs with
    | some a, some b => some (a :: b)
    | _, _ => none
theorem toFls_of {w : Wd} : ∀ {vs : List V} {ds : List D} {us : List V}, Reps K w.r w.F vs ds → toFls ds = some us → vs = us ∧ us.all flatV = true
  | _, _, _, .nil, e => by cases e; exact ⟨rfl, rfl⟩
  | _, d :: ds, _, .cons h hs, e => by
    unfold toFls at e
    cases e1 : toFl d with
    | none => rw [e1] at e; cases e
    | some a =>
      cases e2 : toFls ds with
      | none => rw [e1, e2] at e; cases e
      | some l =>
        rw [e1, e2] at e
        cases e
        obtain ⟨h1, h2⟩ := toFl_of h e1
        obtain ⟨h3, h4⟩ := toFls_of hs e2
        exact ⟨by rw [h1, h3], by rw [List.all_cons, h2, h4] <;> rfl⟩
def dIn (n : Bool) (x y : D) (S : Sto) : Res D := match toFl x, (dSq S y).bind toFls with
  | some u, some us => .ok (.bl (if n then !inV u us else inV u us)) S
  | _, _ => .bad
theorem so_in {n : Bool} : SoR K (rIn K n) (dIn n) := by
  intro W w σ S x y d e Q o rx ry h
  unfold dIn at h
  cases e1 : toFl d with
  | none => rw [e1] at h; exact h.elim
  | some u =>
    cases e2 : dSq S e with
    | none => rw [e1, e2] at h; exact h.elim
    | some xs =>
      rw [e1, e2] at h
      cases e3 : toFls xs with
      | none => rw [Option.bind_some, e3] at h; exact h.elim
      | some us =>
        rw [Option.bind_some, e3] at h
        obtain ⟨p, vs, rfl, hp, hs⟩ := dSq_at o ry e2
        obtain ⟨rfl, f1⟩ := toFl_of rx e1
        obtain ⟨rfl, f2⟩ := toFls_of hs e3
        exact ⟨p, vs, rfl, hp.symm, f1, f2, h.now o (.bl _)⟩
theorem tr_in (ha : Tr X B W a ma) (hb : Tr X B W b mb) (hm : behindInMarks .In b = false := by first | rfl | with_unfolding_all rfl) : Tr X B W (.Compare a [.In] [b] pos) (mOp (dIn false) ma mb) := tr_cmp op_in_seq so_in ha hb hm
theorem tb_in (ha : Tr X B W a ma) (hb : Tr X B W b mb) (hm : behindInMarks .In b = false := by first | rfl | with_unfolding_all rfl) : TrB X B W (.Compare a [.In] [b] pos) (mT (mOp (dIn false) ma mb)) := tb_cmp op_in_seq so_in ha hb hm
theorem tr_nin (ha : Tr X B W a ma) (hb : Tr X B W b mb) (hm : behindInMarks .NotIn b = false := by first | rfl | with_unfolding_all rfl) : Tr X B W (.Compare a [.NotIn] [b] pos) (mOp (dIn true) ma mb) := tr_cmp op_notIn_seq so_in ha hb hm
theorem tb_nin (ha : Tr X B W a ma) (hb : Tr X B W b mb) (hm : behindInMarks .NotIn b = false := by first | rfl | with_unfolding_all rfl) : TrB X B W (.Compare a [.NotIn] [b] pos) (mT (mOp (dIn true) ma mb)) := tb_cmp op_notIn_seq so_in ha hb hm
/-- one sign in a text -/
def dSg (x y : D) (S : Sto) : Res D := match x, y with
  | .str x, .str z => match x.cps.toList with
    | [c] => .ok (.bl (decide (c ∈ z.cps.toList))) S
    | _ => .bad
  | _, _ => .bad
theorem so_sg : SoR K (fun x y H Q => ∃ (c : Nat) (z : Str), x = .str ⟨#[c]⟩ ∧ y = .str z ∧ Q (.bl (decide (c ∈ z.cps.toList))) H) dSg := by
  intro W w σ S x y d e Q o rx ry h
  cases rx with
  | str i =>
    cases ry with
    | str j =>
      unfold dSg at h
      dsimp only at h
      split at h
      · rename_i c hc
        refine ⟨c, j, ?_, rfl, h.now o (.bl _)⟩
        obtain ⟨⟨l⟩⟩ := i
        have hc' : l = [c] := hc
        rw [hc']
      · exact h.elim
    | _ => exact h.elim
  | _ => cases ry <;> exact h.elim
theorem tr_sg (ha : Tr X B W a ma) (hb : Tr X B W b mb) (hm : behindInMarks .In b = false := by first | rfl | with_unfolding_all rfl) : Tr X B W (.Compare a [.In] [b] pos) (mOp dSg ma mb) := tr_cmp op_in_sign so_sg ha hb hm
theorem tb_sg (ha : Tr X B W a ma) (hb : Tr X B W b mb) (hm : behindInMarks .In b = false := by first | rfl | with_unfolding_all rfl) : TrB X B W (.Compare a [.In] [b] pos) (mT (mOp dSg ma mb)) := tb_cmp op_in_sign so_sg ha hb hm

/-! ### subscripts -/
def dIx (x y : D) (S : Sto) : Res D := match y with
  | .int i => match x with
    | .str z => if z.length ≤ big then match atI z.cps.toList i with
        | some c => .ok (.str ⟨#[c]⟩) S
        | none => .bad
      else .bad
    | x => match (dSq S x).bind fun xs => atI xs i with
      | some d => .ok d S
      | none => .bad
  | _ => .bad
theorem atI_reps {w : Wd} {vs : List V} {ds : List D} {i : Int} {d : D} (h : Reps K w.r w.F vs ds) (e : atI ds i = some d) : ∃ v, atI vs i = some v ∧ Rep K w.r w.F v d := by
  unfold atI at e ⊢
  rw [h.len]
  cases e1 : ixN ds.length i with
  | none => rw [e1] at e; cases e
  | some j =>
    rw [e1] at e
    exact h.get e
theorem so_ix : SoR K (rIx K) dIx := by
  intro W w σ S x y d e Q o rx ry h
  cases ry with
  | int i =>
    have seq : ∀ {d : D}, Rep K w.r w.F x d → PoE K W w σ (match (dSq S d).bind fun xs => atI xs i with | some d => .ok d S | none => .bad) Q → rIx K x (.int i) w.H Q := fun {d} rx h => by
      cases e2 : dSq S d with
      | none => rw [e2] at h; exact h.elim
      | some xs =>
        rw [e2, Option.bind_some] at h
        cases e3 : atI xs i with
        | none => rw [e3] at h; exact h.elim
        | some u =>
          rw [e3] at h
          obtain ⟨p, vs, rfl, hp, hs⟩ := dSq_at o rx e2
          obtain ⟨v, h1, h2⟩ := atI_reps hs e3
          rcases hp with hp | hp
          · exact .inr (.inl ⟨p, vs, i, v, rfl, rfl, hp, h1, h.now o h2⟩)
          · exact .inl ⟨p, vs, i, v, rfl, rfl, hp, h1, h.now o h2⟩
    cases rx with
    | str z =>
      unfold dIx at h
      dsimp only at h
      split at h
      · rename_i hz
        cases e3 : atI z.cps.toList i with
        | none => rw [e3] at h; exact h.elim
        | some c =>
          rw [e3] at h
          exact .inr (.inr ⟨z, i, c, rfl, rfl, big_le hz, e3, h.now o (.str _)⟩)
      · exact h.elim
    | non => exact h.elim
    | bl _ => exact h.elim
    | int _ => exact h.elim
    | opq _ => exact h.elim
    | adr _ => exact h.elim
    | dct _ _ _ _ => exact h.elim
    | tup h1 h2 => exact seq (.tup h1 h2) h
    | lst h1 h2 => exact seq (.lst h1 h2) h
    | fz h1 h2 => exact seq (.fz h1 h2) h
    | ref h1 => exact seq (.ref h1) h
  | _ => exact h.elim
theorem tr_ix (ha : Tr X B W a ma) (hb : Tr X B W b mb) (hs : PlainIx b := by exact fun _ _ => rfl) : Tr X B W (.Subscript a b pos) (mOp dIx ma mb) := imE (pe_ix ix_seq ha hb hs) fun σ H Q h => so_op so_ix h
/-! slices: of texts, tuples, lists -/
abbrev Od := En → Sto → Res (Option Int)
def PoO (K : Kw) (W : WX) (w : Wd) (σ : L2.St) (r : Res (Option Int)) (Q : Option Int → Hp → Prop) : Prop := match r with
  | .ok b S' => ∀ w', Step w w' → w'.Ok K S' → Q b w'.H
  | .exc c fs S' => ∀ w' dx vs, Step w w' → w'.Ok K S' → ExAt w' dx vs → Fld K w'.r w'.F vs fs → W (.ref c) (some dx) σ w'.H
  | .bad => False
theorem PoE.bindO {w : Wd} {σ : L2.St} {r : Res (Option Int)} {f : Option Int → Sto → Res D} {Q : VK} {Q' : Option Int → Hp → Prop} (h : PoE K W w σ (r.bind f) Q) (k : ∀ d S w', r = .ok d S → Step w w' → w'.Ok K S → PoE K W w' σ (f d S) Q → Q' d w'.H) : PoO K W w σ r Q' := by
  cases r with
  | ok d S => exact fun w2 t o => k d S w2 rfl t o (PoE.step t h)
  | exc c fs S => exact h
  | bad => exact h
def cO (K : Kw) (B : Bs) (W : WX) (m : Od) : TO := fun σ H Q => ∃ r F Γ S, Wd.Ok K ⟨r, F, H⟩ S ∧ EnOk K B ⟨r, F, H⟩ Γ σ ∧ PoO K W ⟨r, F, H⟩ σ (m Γ S) Q
def TrO (X : Cx) (B : Bs) (W : WX) (e : Option Expr) (m : Od) : Prop := PO X e (cO X.kw B W m)
theorem imO {o : Option Expr} {t t' : TO} (h : PO X o t) (k : ∀ σ H Q, t' σ H Q → t σ H Q) : PO X o t' := ⟨fun p s σ H Q I q => h.run p s σ H Q I (k _ _ _ q)⟩
def oNo : Od := fun _ S => .ok none S
def oSo (a : Ed) : Od := fun Γ S => (a Γ S).bind fun x S1 => match x with
  | .int i => .ok (some i) S1
  | _ => .bad
theorem to_no : TrO X B W none oNo := imO po_none fun σ H Q ⟨_, _, Γ, S, o, g, q⟩ => q _ (Step.refl _) o
theorem PoO.bindE {w : Wd} {σ : L2.St} {r : Res D} {f : D → Sto → Res (Option Int)} {Q : Option Int → Hp → Prop} {Q' : VK} (h : PoO K W w σ (r.bind f) Q) (k : ∀ d S w' v, r = .ok d S → Step w w' → w'.Ok K S → Rep K w'.r w'.F v d → PoO K W w' σ (f d S) Q → Q' v w'.H) : PoE K W w σ r Q' := by
  cases r with
  | ok d S =>
    intro w2 v t o r
    refine k d S w2 v rfl t o r ?_
    have h : PoO K W w σ (f d S) Q := h
    cases e : f d S with
    | ok b S2 => rw [e] at h; exact fun w3 t3 o3 => h w3 (t.trans t3) o3
    | exc c fs S2 => rw [e] at h; exact fun w3 dx vs t3 o3 e3 r3 => h w3 dx vs (t.trans t3) o3 e3 r3
    | bad => rw [e] at h; exact h
  | exc c fs S => exact h
  | bad => exact h
theorem to_so (ha : Tr X B W a ma) : TrO X B W (some a) (oSo ma) := by
  refine imO (po_some ha) fun σ H Q h => ?_
  obtain ⟨r0, F, Γ, S, o, g, q⟩ := h
  refine ⟨r0, F, Γ, S, o, g, PoO.bindE q fun d S1 w1 v _ t1 o1 rp1 q1 => ?_⟩
  cases rp1 with
  | int i => exact ⟨i, rfl, q1 _ (Step.refl _) o1⟩
  | _ => exact q1.elim
def cutD (xs : List D) (lo hi : Option Int) : List D := (xs.drop (HT.sIx xs.length 0 lo)).take (HT.sIx xs.length xs.length hi - HT.sIx xs.length 0 lo)
theorem cut_reps {w : Wd} {vs : List V} {ds : List D} (h : Reps K w.r w.F vs ds) (lo hi : Option Int) : Reps K w.r w.F (cutV vs lo hi) (cutD ds lo hi) := by
  unfold cutV cutD
  rw [h.len]
  exact (h.drop _).take _
theorem cut_whole {xs : List D} {lo hi : Option Int} (h : HT.sIx xs.length 0 lo = 0 ∧ HT.sIx xs.length xs.length hi = xs.length) : cutD xs lo hi = xs := by
  unfold cutD
  rw [h.1, h.2, List.drop_zero, Nat.sub_zero, List.take_length]
def dSl (f : Bool) (x : D) (lo hi : Option Int) (S : Sto) : Res D := match x with
  | .str z => if z.length ≤ big then .ok (.str (cutS z lo hi)) S else .bad
  | .tup xs => .ok (.tup (cutD xs lo hi)) S
  | x => match dL S x with
    | some xs => mkL f (cutD xs lo hi) S
    | none => .bad
def mSl (f : Bool) (a : Ed) (l u : Od) : Ed := fun Γ S => (a Γ S).bind fun x S1 => (l Γ S1).bind fun lo S2 => (u Γ S2).bind fun hi S3 => dSl f x lo hi S3
def rSl (K : Kw) : V → Option Int → Option Int → Hp → VK → Prop := fun x lo hi H Q => (rSlS x lo hi H Q ∨ rSlA K x lo hi H Q) ∨ rSlL K x lo hi H Q
theorem sl_any : SlR X (rSl X.kw) := (sl_str.or sl_tupA).or sl_list
theorem so_sl {f : Bool} {w : Wd} {σ : L2.St} {S : Sto} {x : V} {d : D} {lo hi : Option Int} {Q : VK} (o : w.Ok K S) (rx : Rep K w.r w.F x d) (h : PoE K W w σ (dSl f d lo hi S) Q) : rSl K x lo hi w.H Q := by
  have ls : ∀ {d : D}, Rep K w.r w.F x d → PoE K W w σ (match dL S d with | some xs => mkL f (cutD xs lo hi) S | none => .bad) Q → rSl K x lo hi w.H Q := fun {d} rx h => by
    cases e : dL S d with
    | none => rw [e] at h; exact h.elim
    | some xs =>
      rw [e] at h
      obtain ⟨p, vs, rfl, hp, hs⟩ := dL_at o rx e
      exact .inr ⟨p, vs, rfl, hp, fun p2 hp2 => mkL_ok o h (cut_reps hs lo hi) p2 hp2⟩
  cases rx with
  | str z =>
    unfold dSl at h
    dsimp only at h
    split at h
    · rename_i hz
      exact .inl (.inl ⟨z, rfl, big_le hz, h.now o (.str _)⟩)
    · exact h.elim
  | @tup p vs xs hp hs =>
    refine .inl (.inr ⟨p, vs, rfl, sqT_sub o.sub hp, fun hw => ?_, fun _ p2 hp2 => mkT_ok o h (cut_reps hs lo hi) p2 hp2⟩)
    rw [hs.len] at hw
    have h' : PoE K W w σ (.ok (.tup (cutD xs lo hi)) S) Q := h
    rw [cut_whole hw] at h'
    exact h'.now o (.tup hp hs)
  | non => exact h.elim
  | bl _ => exact h.elim
  | int _ => exact h.elim
  | opq _ => exact h.elim
  | adr _ => exact h.elim
  | dct _ _ _ _ => exact h.elim
  | lst h1 h2 => exact ls (.lst h1 h2) h
  | fz h1 h2 => exact ls (.fz h1 h2) h
  | ref h1 => exact ls (.ref h1) h
theorem tr_sl (f : Bool) {lo hi : Option Expr} {ml mu : Od} {p2 : Pos} (ha : Tr X B W a ma) (hl : TrO X B W lo ml) (hu : TrO X B W hi mu) : Tr X B W (.Subscript a (.Slice lo hi none p2) pos) (mSl f ma ml mu) := by
  refine imE (pe_slice sl_any ha hl hu) fun σ H Q h => ?_
  obtain ⟨r0, F, Γ, S, o, g, q⟩ := h
  refine ⟨r0, F, Γ, S, o, g, PoE.bindE q fun d S1 w1 v _ t1 o1 rp1 q1 => ?_⟩
  refine ⟨w1.r, w1.F, Γ, S1, o1, g.step t1, PoE.bindO q1 fun d2 S2 w2 _ t2 o2 q2 => ?_⟩
  refine ⟨w2.r, w2.F, Γ, S2, o2, g.step (t1.trans t2), PoE.bindO q2 fun d3 S3 w3 _ t3 o3 q3 => ?_⟩
  exact so_sl o3 (rp1.up (t2.trans t3).pre (t2.trans t3).sub) q3
end
end Fx
end

section
set_option Elab.async false
set_option linter.all false
set_option maxRecDepth 100000
set_option maxHeartbeats 2000000
namespace Fx
open PySem PySem.Spec PyProof.Rows L2
variable [Nam]

/-! ## calls of defs -/
section
variable {X : Cx} {K : Kw} {B : Bs} {W : WX} {a b c e o : Expr} {es : List Expr} {p pos apos : Pos} {ma mb mc : Ed} {mA : Ad}
abbrev WE0 (E : XK) : WX := fun c d _ H => E c d H
/-- what a def promises: n arguments, the function f -/
def SpF (K : Kw) (n : Nat) (f : Fn) : Sp := fun vs H Q E => ∃ r F S ds, Wd.Ok K ⟨r, F, H⟩ S ∧ Reps K r F vs ds ∧ ds.length = n ∧ PoE K (WE0 E) ⟨r, F, H⟩ [] (f ds S) Q
theorem PoE.at0 {w : Wd} {σ : L2.St} {r : Res D} {Q : VK} (h : PoE K W w σ r Q) : PoE K (WE0 (WE W σ)) w [] r Q := by cases r <;> exact h
theorem PoE.at0' {w : Wd} {σ : L2.St} {r : Res D} {Q : VK} {E : XK} (h : PoE K (WE0 E) w σ r Q) : PoE K (WE0 E) w [] r Q := by cases r <;> exact h
/-- the function is asked of n things alone -/
def arg (n : Nat) (f : Fn) : Fn := fun ds S => if ds.length = n then f ds S else .bad
def mCall (n : Nat) (f : Fn) (a : Ad) : Ed := fun Γ S => (a Γ S).bind (arg n f)
theorem arg_ok {n : Nat} {f : Fn} {ds : List D} {S : Sto} {w : Wd} {σ : L2.St} {Q : VK} (h : PoE K W w σ (arg n f ds S) Q) : ds.length = n ∧ PoE K W w σ (f ds S) Q := by
  unfold arg at h
  split at h
  · rename_i hl
    exact ⟨hl, h⟩
  · exact h.elim
theorem tr_call {k : Nat} {f : Addr} {fd : FuncData} {ps : List Str} {fn : Fn} {x : Str} (F : FnOk X.prog X.w X.kw X.mg X.base (L2.CX X.prog X.w) k f fd ps (SpF X.kw ps.length fn)) (hr : Room k X.A) (hm : X.mg x = some (.ref f)) (hk : PySem.W.keepIn X.kw (.ref f) = true)
    (hb : Binds X.kw fd ps []) (tk : Takes X W) (ha : TrA X B W (e :: es) mA) (hg : Gl X x := by rfl) (hdb : (x == ("__debug__" : Str)) = false := by decide) (he : starEach (e :: es) X.env = (false, eval e X.env) :: starEach es X.env := by rfl)
    (hpl : (backTo pos (starEach es X.env)).any (·.1) = false := by rfl) : Tr X B W (.Call (.Name x p) (e :: es) [] pos) (mCall ps.length fn mA) := by
  refine imE (pe_callS F hr hg hm hk hb (passAt tk) ha hdb he hpl) fun σ H Q h => ?_
  obtain ⟨r0, F0, Γ, S, o, g, q⟩ := h
  refine ⟨r0, F0, Γ, S, o, g, PoE.bindA q fun d S1 w1 v _ t1 o1 rp1 q1 => ?_⟩
  obtain ⟨hl, q2⟩ := arg_ok q1
  exact ⟨w1.r, w1.F, S1, d, o1, rp1, hl, q2.at0⟩
/-- f() -/
theorem tr_call0 {k : Nat} {f : Addr} {fd : FuncData} {ps : List Str} {fn : Fn} {x : Str} (F : FnOk X.prog X.w X.kw X.mg X.base (L2.CX X.prog X.w) k f fd ps (SpF X.kw ps.length fn)) (hr : Room k X.A) (hm : X.mg x = some (.ref f)) (hk : PySem.W.keepIn X.kw (.ref f) = true)
    (hb : Binds X.kw fd ps []) (tk : Takes X W) (hg : Gl X x := by rfl) (hdb : (x == ("__debug__" : Str)) = false := by decide) : Tr X B W (.Call (.Name x p) [] [] pos) (mCall ps.length fn aNil) := by
  refine ⟨fun pins s σ H Q I h => ?_⟩
  refine wpAny_Call_Name_kw (ld_glob I hg hm ?_ hdb)
  obtain ⟨r0, F0, Γ, S, o, g, q⟩ := h
  obtain ⟨hl, q2⟩ := arg_ok (ds := []) (S := S) q
  exact PySem.W.callWith_K0 I.kIn hk (run_fnS (us := []) (vs := []) (E := WE W) F hr hb (passAt tk σ) I .nil ⟨r0, F0, S, [], o, .nil, hl, q2.at0⟩)

/-! ## instances -/
def putD (f : Str) (v : D) : List (Str × D) → List (Str × D)
  | [] => [(f, v)]
  | (g, u) :: r => if g = f then (f, v) :: r else (g, u) :: putD f v r
theorem Fld.look {r : List Addr} {F : Hp} {f : Str} {d : D} : ∀ {vs : List (Str × V)} {fs : List (Str × D)}, Fld K r F vs fs → fs.lookup f = some d → ∃ v, vs.lookup f = some v ∧ Rep K r F v d
  | _, _, .nil, e => by simp at e
  | (g, u) :: vs, (g', d') :: fs, .cons ⟨h1, h2⟩ t, e => by
    have h1 : g = g' := h1
    subst h1
    rw [List.lookup_cons] at e ⊢
    split at e
    · cases e
      rename_i hq
      exact ⟨u, rfl, h2⟩
    · rename_i hq
      exact Fld.look t e
theorem Fld.noLook {r : List Addr} {F : Hp} {f : Str} : ∀ {vs : List (Str × V)} {fs : List (Str × D)}, Fld K r F vs fs → fs.lookup f = none → vs.lookup f = none
  | _, _, .nil, _ => rfl
  | (g, u) :: vs, (g', d') :: fs, .cons ⟨h1, h2⟩ t, e => by
    have h1 : g = g' := h1
    subst h1
    rw [List.lookup_cons] at e ⊢
    split at e
    · cases e
    · exact Fld.noLook t e
theorem Fld.put {r : List Addr} {F : Hp} {f : Str} {v : V} {d : D} (h : Rep K r F v d) : ∀ {vs : List (Str × V)} {fs : List (Str × D)}, Fld K r F vs fs → Fld K r F (putF f v vs) (putD f d fs)
  | _, _, .nil => .cons ⟨rfl, h⟩ .nil
  | (g, u) :: vs, (g', d') :: fs, .cons ⟨h1, h2⟩ t => by
    have h1 : g = g' := h1
    subst h1
    unfold putF putD
    by_cases hq : g = f
    · rw [if_pos hq, if_pos hq]
      exact .cons ⟨hq, h⟩ t
    · rw [if_neg hq, if_neg hq]
      exact .cons ⟨rfl, h2⟩ (Fld.put h t)
theorem Fld.len {r : List Addr} {F : Hp} {vs : List (Str × V)} {fs : List (Str × D)} (h : Fld K r F vs fs) : vs.length = fs.length := Paired.length h
/-- o.f of an instance whose class is one of G -/
def dFld (G : Addr → Bool) (f : Str) (x : D) (S : Sto) : Res D := match x with
  | .ref n => match S[n]? with
    | some (.ins C fs) => if G C = true then match fs.lookup f with
        | some d => .ok d S
        | none => .bad
      else .bad
    | _ => .bad
  | _ => .bad
def Plain (K : Kw) (G : Addr → Bool) (f : Str) : Prop := ∀ C, G C = true → Cls K C ∧ NoAttr K C f
theorem tr_fld {G : Addr → Bool} {f : Str} (hG : Plain X.kw G f) (ha : Tr X B W a ma) (hb : attributeBase a f X.env (eval a X.env) = eval a X.env := by rfl) : Tr X B W (.Attribute a f pos) (mUn (dFld G f) ma) := by
  refine imE (pe_fld ha hb) fun σ H Q h => ?_
  obtain ⟨r0, F0, Γ, S, o, g, q⟩ := h
  refine ⟨r0, F0, Γ, S, o, g, PoE.bindE q fun d S1 w1 v _ t1 o1 rp1 q1 => ?_⟩
  cases rp1 with
  | @ref p n hp =>
    unfold dFld at q1
    dsimp only at q1
    cases e1 : S1[n]? with
    | none => rw [e1] at q1; exact q1.elim
    | some ob =>
      rw [e1] at q1
      cases ob with
      | ins C fs =>
        dsimp only at q1
        split at q1
        · rename_i hC
          cases e2 : fs.lookup f with
          | none => rw [e2] at q1; exact q1.elim
          | some d =>
            rw [e2] at q1
            obtain ⟨dx, vs, h1, h2⟩ := o1.obj n _ p e1 hp
            obtain ⟨v, h3, h4⟩ := h2.look e2
            exact ⟨p, C, dx, vs, v, rfl, h1, (hG C hC).1, (hG C hC).2, h3, q1.now o1 h4⟩
        · exact q1.elim
      | _ => exact q1.elim
  | _ => exact q1.elim
/-- o.m(..) -/
def dMeth (G : Addr → Bool) (m : Str) (k : D → Sto → Res D) (x : D) (S : Sto) : Res D := match x with
  | .ref i => match S[i]? with
    | some (.ins C fs) => if G C = true then match fs.lookup m with
        | none => k (.ref i) S
        | some _ => .bad
      else .bad
    | _ => .bad
  | _ => .bad
def mMeth (G : Addr → Bool) (m : Str) (n : Nat) (f : Fn) (a : Ed) (b : Ad) : Ed := fun Γ S => (a Γ S).bind fun x S1 => dMeth G m (fun x S1 => (b Γ S1).bind fun ds S2 => arg n f (x :: ds) S2) x S1
structure MethF (K : Kw) (G : Addr → Bool) (m : Str) (f : Addr) : Prop where
  ok : ∀ C, G C = true → Cls K C ∧ Meth K C m f
  kp : PySem.W.keepIn K (.ref f) = true
theorem meth_at {G : Addr → Bool} {m : Str} {f : Addr} (hM : MethF K G m f) {w : Wd} {σ : L2.St} {S : Sto} {x : V} {d : D} {kk : D → Sto → Res D} {Q : VK} (o1 : w.Ok K S) (rp : Rep K w.r w.F x d)
    (q1 : PoE K W w σ (dMeth G m kk d S) Q) : ∃ p C dx vs, x = .ref p ∧ w.H p = some (.ins C dx vs) ∧ Cls K C ∧ Meth K C m f ∧ vs.lookup m = none ∧ PoE K W w σ (kk d S) Q := by
  cases rp with
  | @ref p i hp =>
    unfold dMeth at q1
    dsimp only at q1
    cases e1 : S[i]? with
    | none => rw [e1] at q1; exact q1.elim
    | some ob =>
      rw [e1] at q1
      cases ob with
      | ins C fs =>
        dsimp only at q1
        split at q1
        · rename_i hC
          cases e2 : fs.lookup m with
          | some _ => rw [e2] at q1; exact q1.elim
          | none =>
            rw [e2] at q1
            obtain ⟨dx, vs, h1, h2⟩ := o1.obj i _ p e1 hp
            exact ⟨p, C, dx, vs, rfl, h1, (hM.ok C hC).1, (hM.ok C hC).2, h2.noLook e2, q1⟩
        · exact q1.elim
      | _ => exact q1.elim
  | _ => exact q1.elim
theorem tr_meth {pl : Sem Bool} {k : Nat} {f : Addr} {fd : FuncData} {ps : List Str} {fn : Fn} {m : Str} {G : Addr → Bool} (F : FnOk X.prog X.w X.kw X.mg X.base (L2.CX X.prog X.w) k f fd ps (SpF X.kw ps.length fn)) (hr : Room k X.A) (hM : MethF X.kw G m f)
    (hb : Binds X.kw fd ps []) (tk : Takes X W) (ho : Tr X B W o ma) (ha : TrA X B W (e :: es) mA)
    (hst : starEach (e :: es) X.env = (false, eval e X.env) :: starEach es X.env := by rfl) (hpl : (backTo pos (starEach es X.env)).any (·.1) = false := by rfl)
    (ht : eval (.Call (.Attribute o m apos) (e :: es) [] pos) X.env = (do
      let ov ← eval o X.env
      standAt apos.atName
      let (f, first) ← holding [ov] (getMethod ov m pl)
      callWith pos f first (backTo pos (starEach (e :: es) X.env)) (backToKw pos (keywordEach [] X.env))) := by rfl) : Tr X B W (.Call (.Attribute o m apos) (e :: es) [] pos) (mMeth G m ps.length fn ma mA) := by
  refine ⟨fun pins s σ H Q I h => ?_⟩
  obtain ⟨r0, F0, Γ, S, oo, g, q⟩ := h
  have h1 : cE X.kw B W ma σ H (fun x H1 => ∃ p C dx vs, x = .ref p ∧ H1 p = some (.ins C dx vs) ∧ Cls X.kw C ∧ Meth X.kw C m f ∧ vs.lookup m = none ∧ cA X.kw B W mA σ H1 (fun us H2 => SpF X.kw ps.length fn (x :: us) H2 Q (WE W σ))) := by
    refine ⟨r0, F0, Γ, S, oo, g, PoE.bindE q fun d S1 w1 v _ t1 o1 rp1 q1 => ?_⟩
    obtain ⟨p, C, dx, vs, e1, e2, e3, e4, e5, q2⟩ := meth_at hM o1 rp1 q1
    refine ⟨p, C, dx, vs, e1, e2, e3, e4, e5, w1.r, w1.F, Γ, S1, o1, g.step t1, PoE.bindA q2 fun ds S2 w2 us _ t2 o2 rp2 q3 => ?_⟩
    obtain ⟨hl, q4⟩ := arg_ok q3
    exact ⟨w2.r, w2.F, S2, d :: ds, o2, .cons (rp1.up t2.pre t2.sub) rp2, hl, q4.at0⟩
  refine PySem.W.methodCall_KW (pl := pl) (thn (ho.run pins s σ H _ I h1) fun u s1 ⟨x, H1, I1, rx, a, C, dx, fs, ex, ea, hc, hm, l, q⟩ => ?_) ht
  subst ex
  obtain rfl : u = Value.ref a := rx
  refine getmeth_ok I1 ea hc hm l ?_
  refine PySem.W.callWith_K (first := [.ref a]) (h₀ := X.base) I.ok.mod.kin hM.kp (thn (ha.run pos pins s1 σ H1 _ I1 q) fun us s2 ⟨vs, H2, I2, r, q2⟩ => ⟨I2.kIn, ?_⟩) hst hpl
  exact run_fnS (E := WE W) (us := .ref a :: us) (vs := .ref a :: vs) F hr hb (passAt tk σ) I2 (.cons rfl r) q2
theorem tr_meth0 {pl : Sem Bool} {k : Nat} {f : Addr} {fd : FuncData} {ps : List Str} {fn : Fn} {m : Str} {G : Addr → Bool} (F : FnOk X.prog X.w X.kw X.mg X.base (L2.CX X.prog X.w) k f fd ps (SpF X.kw ps.length fn)) (hr : Room k X.A) (hM : MethF X.kw G m f)
    (hb : Binds X.kw fd ps []) (tk : Takes X W) (ho : Tr X B W o ma)
    (ht : eval (.Call (.Attribute o m apos) [] [] pos) X.env = (do
      let ov ← eval o X.env
      standAt apos.atName
      let (f, first) ← holding [ov] (getMethod ov m pl)
      callWith pos f first (backTo pos (starEach [] X.env)) (backToKw pos (keywordEach [] X.env))) := by rfl) : Tr X B W (.Call (.Attribute o m apos) [] [] pos) (mMeth G m ps.length fn ma aNil) := by
  refine ⟨fun pins s σ H Q I h => ?_⟩
  obtain ⟨r0, F0, Γ, S, oo, g, q⟩ := h
  have h1 : cE X.kw B W ma σ H (fun x H1 => ∃ p C dx vs, x = .ref p ∧ H1 p = some (.ins C dx vs) ∧ Cls X.kw C ∧ Meth X.kw C m f ∧ vs.lookup m = none ∧ SpF X.kw ps.length fn [x] H1 Q (WE W σ)) := by
    refine ⟨r0, F0, Γ, S, oo, g, PoE.bindE q fun d S1 w1 v _ t1 o1 rp1 q1 => ?_⟩
    obtain ⟨p, C, dx, vs, e1, e2, e3, e4, e5, q2⟩ := meth_at hM o1 rp1 q1
    obtain ⟨hl, q4⟩ := arg_ok (ds := [d]) (S := S1) q2
    exact ⟨p, C, dx, vs, e1, e2, e3, e4, e5, w1.r, w1.F, S1, [d], o1, .cons rp1 .nil, hl, q4.at0⟩
  refine PySem.W.methodCall_KW (pl := pl) (thn (ho.run pins s σ H _ I h1) fun u s1 ⟨x, H1, I1, rx, a, C, dx, fs, ex, ea, hc, hm, l, q⟩ => ?_) ht
  subst ex
  obtain rfl : u = Value.ref a := rx
  refine getmeth_ok I1 ea hc hm l ?_
  exact PySem.W.callWith_K0 (first := [.ref a]) I1.kIn hM.kp (run_fnS (E := WE W) (us := [.ref a]) (vs := [.ref a]) F hr hb (passAt tk σ) I1 (.cons rfl .nil) q)
/-- C(..): a new instance that may change -/
def mMake (C : Addr) (n : Nat) (f : Fn) (a : Ad) : Ed := fun Γ S => (a Γ S).bind fun ds S1 => (arg n f (.ref S1.length :: ds) (S1 ++ [.ins C []])).bind fun z S2 => match z with
  | .non => .ok (.ref S1.length) S2
  | _ => .bad
theorem run_makeS {CX : CXT} {k : Nat} {f C : Addr} {fd : FuncData} {ps : List Str} {sp : Sp} {E : XK} {pins : List (Addr × Obj)} {σ : L2.St} {H : Hp} {s : Shared} {Q : VK} {us : List Value} {vs : List V} (M : Mk X.kw C f) (F : FnOk X.prog X.w X.kw X.mg X.base CX k f fd ps sp) (hr : Room (k + 1) X.A) (hb : Binds X.kw fd ps [])
    (hx : PassesAt CX X σ E) (I : Inv X pins σ H s) (r : Vals vs us)
    (h : ∀ x dx, H x = none → H dx = none → dx ≠ x → sp (.ref x :: vs) (upd (upd H dx (.own x)) x (.ins C dx [])) (fun v H2 => v = .non ∧ Q (.ref x) H2) E) :
    wpAny (model X.prog X.w) X.A (call (.ref C) us) (EP X pins σ Q) X.xe s := by
  have hq := h (s.heap.objs.size + 1) s.heap.objs.size (I.hok.fresh (Nat.le_succ _)) (I.hok.fresh (Nat.le_refl _)) (Nat.ne_of_lt (Nat.lt_succ_self _))
  have I2 := Inv.made (C := C) I
  have r2 : Vals (V.ref (s.heap.objs.size + 1) :: vs) (Value.ref (s.heap.objs.size + 1) :: us) := .cons rfl r
  have hl : (Value.ref (s.heap.objs.size + 1) :: us).length = ps.length := by
    have e := r2.length
    rw [F.len _ _ _ _ hq] at e
    exact e.symm
  have hbb := hb _ (Value.ref (s.heap.objs.size + 1) :: us) I2.kIn (by rw [List.append_nil]; exact hl)
  rw [List.append_nil] at hbb
  refine wpAny_call (make_map (f := f) I.kIn M.makes M.init (beq_iff_eq.mp M.fn) (codeAny_mono (F.run _ X.stack _ _ ⟨Value.ref (s.heap.objs.size + 1) :: us, []⟩ (Value.ref (s.heap.objs.size + 1) :: us) _ _ E (hr.make C us [])
    (I2.env0.make C us []) hbb r2 hq) fun r s' hq' => ?_))
  cases r with
  | error e => exact hx pins _ _ e s' I2 hq'
  | ok fl =>
    cases fl with
    | ret u =>
      obtain ⟨v, H', I3, rv, ev, q3⟩ := I2.after hq'
      subst ev
      exact ⟨rv, ⟨V.ref (s.heap.objs.size + 1), H', I3, rfl, q3⟩⟩
    | next => exact False.elim hq'
    | brk => exact False.elim hq'
    | cont => exact False.elim hq'
theorem made_ok {w : Wd} {S : Sto} {C x dx : Addr} (o : w.Ok K S) (hx : w.H x = none) (hd : w.H dx = none) (ne : dx ≠ x) :
    Wd.Ok K ⟨w.r ++ [x], w.F, upd (upd w.H dx (.own x)) x (.ins C dx [])⟩ (S ++ [.ins C []]) ∧ Step w ⟨w.r ++ [x], w.F, upd (upd w.H dx (.own x)) x (.ins C dx [])⟩ := by
  have o1 : Wd.Ok K ⟨w.r, w.F, upd w.H dx (.own x)⟩ S := by
    refine ⟨fun a y e => ?_, o.len, o.nd, fun n y a e1 e2 => ?_, o.out, fun n a e2 => ?_, o.ntb⟩
    · show upd w.H dx _ a = some y
      rw [upd_ne (ne_of_none (o.sub a y e) hd)]
      exact o.sub a y e
    · exact (o.obj n y a e1 e2).up (List.prefix_refl _) (SubH.refl _) (upd_ne fun z => o.there n a e2 (by rw [z]; exact hd))
    · show upd w.H dx _ a ≠ none
      rw [upd_ne fun z => o.there n a e2 (by rw [z]; exact hd)]
      exact o.there n a e2
  have t1 : Step w ⟨w.r, w.F, upd w.H dx (.own x)⟩ := ⟨List.prefix_refl _, SubH.refl _, fun a y e _ _ => by
    show upd w.H dx _ a = some y
    rw [upd_ne (ne_of_none e hd)]
    exact e, frz_upd (lo_none hd), dom_upd (fun _ z => (nomatch z)), tabs_upd (lo_none hd), fun a hm => .inl hm, fun a hm => .inl hm⟩
  have hx1 : (⟨w.r, w.F, upd w.H dx (.own x)⟩ : Wd).H x = none := by
    show upd w.H dx _ x = none
    rw [upd_ne ne.symm]
    exact hx
  obtain ⟨o2, t2⟩ := o1.mut (x := .ins C []) hx1 (u := .ins C dx []) ⟨dx, [], upd_same, .nil⟩
  exact ⟨o2, t1.trans t2⟩
theorem tr_make {k : Nat} {f C : Addr} {fd : FuncData} {ps : List Str} {fn : Fn} {x : Str} (M : Mk X.kw C f) (F : FnOk X.prog X.w X.kw X.mg X.base (L2.CX X.prog X.w) k f fd ps (SpF X.kw ps.length fn)) (hr : Room (k + 1) X.A) (hm : X.mg x = some (.ref C))
    (hb : Binds X.kw fd ps []) (tk : Takes X W) (ha : TrA X B W (e :: es) mA) (hg : Gl X x := by rfl) (hdb : (x == ("__debug__" : Str)) = false := by decide) (he : starEach (e :: es) X.env = (false, eval e X.env) :: starEach es X.env := by rfl)
    (hpl : (backTo pos (starEach es X.env)).any (·.1) = false := by rfl) : Tr X B W (.Call (.Name x p) (e :: es) [] pos) (mMake C ps.length fn mA) := by
  refine ⟨fun pins s σ H Q I h => ?_⟩
  obtain ⟨r0, F0, Γ, S, oo, g, q⟩ := h
  have h1 : cA X.kw B W mA σ H (fun vs H1 => ∀ x dx, H1 x = none → H1 dx = none → dx ≠ x → SpF X.kw ps.length fn (.ref x :: vs) (upd (upd H1 dx (.own x)) x (.ins C dx [])) (fun v H2 => v = .non ∧ Q (.ref x) H2) (WE W σ)) := by
    refine ⟨r0, F0, Γ, S, oo, g, PoE.bindA q fun ds S1 w1 vs _ t1 o1 rp1 q1 x dx hx hd ne => ?_⟩
    obtain ⟨o2, t2⟩ := made_ok (C := C) o1 hx hd ne
    have q1' : PoE X.kw W w1 σ ((arg ps.length fn (.ref S1.length :: ds) (S1 ++ [.ins C []])).bind fun z S2 => match z with
      | .non => .ok (.ref S1.length) S2
      | _ => .bad) Q := q1
    have hrx : (w1.r ++ [x])[S1.length]? = some x := by
      rw [List.getElem?_append_right (by rw [o1.len]; exact Nat.le_refl _), o1.len, Nat.sub_self]
      rfl
    have q2 := (PoE.step t2 q1').bindE (Q' := fun v H2 => v = .non ∧ Q (.ref x) H2) fun d S2 w2 v _ t3 o3 rp3 q3 => by
      cases rp3 with
      | non => exact ⟨rfl, q3.now o3 (.ref (pre_get t3.pre hrx))⟩
      | _ => exact q3.elim
    obtain ⟨hl, q4⟩ := arg_ok q2
    exact ⟨_, _, _, .ref S1.length :: ds, o2, .cons (.ref hrx) (rp1.up t2.pre t2.sub), hl, q4.at0⟩
  refine wpAny_Call_Name_kw (ld_glob I hg hm ?_ hdb)
  refine PySem.W.callWith_K (h₀ := X.base) I.ok.mod.kin M.kp (thn (ha.run pos pins s σ H _ I h1) fun us s1 ⟨vs, H1, I1, r, q⟩ => ⟨I1.kIn, ?_⟩) he hpl
  exact run_makeS M F hr hb (passAt tk σ) I1 r q

/-! ## built-ins -/
/-- a call's rule is right for f -/
def SoC (K : Kw) (r : List V → Hp → VK → Prop) (f : Fn) : Prop := ∀ (W : WX) (w : Wd) (σ : L2.St) (S : Sto) (xs : List V) (ds : List D) (Q : VK), w.Ok K S → Reps K w.r w.F xs ds → PoE K W w σ (f ds S) Q → r xs w.H Q
def mBlt (f : Fn) (a : Ad) : Ed := fun Γ S => (a Γ S).bind f
theorem so_C {r : List V → Hp → VK → Prop} {f : Fn} (hr : SoC X.kw r f) {σ : L2.St} {H : Hp} {Q : VK} (h : cE X.kw B W (mBlt f mA) σ H Q) : tCB r (cA X.kw B W mA) σ H Q := by
  obtain ⟨r0, F0, Γ, S, o, g, q⟩ := h
  exact ⟨r0, F0, Γ, S, o, g, PoE.bindA q fun d S1 w1 v _ t1 o1 rp1 q1 => hr W w1 σ S1 v d Q o1 rp1 q1⟩
theorem tr_blt {r : List V → Hp → VK → Prop} {f : Fn} {id : String} {x : Str} (hc : CallR X (.builtin id) r) (hr : SoC X.kw r f) (hm : X.mg x = none) (hv : bootBuiltins x = some (.builtin id)) (ha : TrA X B W (e :: es) mA) (hg : Gl X x := by rfl) (hn : x ≠ "__name__" := by decide) (hdb : (x == ("__debug__" : Str)) = false := by decide)
    (he : starEach (e :: es) X.env = (false, eval e X.env) :: starEach es X.env := by rfl) (hpl : (backTo pos (starEach es X.env)).any (·.1) = false := by rfl) : Tr X B W (.Call (.Name x p) (e :: es) [] pos) (mBlt f mA) :=
  imE (pe_callB hc hg hm hv ha hn hdb he hpl) fun σ H Q h => so_C hr h
theorem tr_blty {r : List V → Hp → VK → Prop} {f : Fn} {T : String} {x : Str} (hc : CallR X (.type T) r) (hr : SoC X.kw r f) (hm : X.mg x = none) (hv : bootBuiltins x = some (.type T)) (ha : TrA X B W (e :: es) mA) (hg : Gl X x := by rfl) (hn : x ≠ "__name__" := by decide) (hdb : (x == ("__debug__" : Str)) = false := by decide)
    (he : starEach (e :: es) X.env = (false, eval e X.env) :: starEach es X.env := by rfl) (hpl : (backTo pos (starEach es X.env)).any (·.1) = false := by rfl) : Tr X B W (.Call (.Name x p) (e :: es) [] pos) (mBlt f mA) :=
  imE (pe_callTy hc hg hm hv ha hn hdb he hpl) fun σ H Q h => so_C hr h
/-- len -/
def fLen : Fn := fun ds S => match ds with
  | [.str z] => if z.length ≤ big then .ok (.int z.length) S else .bad
  | [d] => match dSq S d with
    | some xs => .ok (.int xs.length) S
    | none => .bad
  | _ => .bad
theorem call_lenA : CallR X (.builtin "len") (fun xs H Q => (∃ z, xs = [.str z] ∧ z.length ≤ sizeLine ∧ Q (.int z.length) H) ∨ (∃ p ys, xs = [.ref p] ∧ (SqL X.kw H p ys ∨ SqT X.kw H p ys) ∧ Q (.int ys.length) H)) := CallR.or call_len_str call_len_seq
theorem so_len : SoC K (fun xs H Q => (∃ z, xs = [.str z] ∧ z.length ≤ sizeLine ∧ Q (.int z.length) H) ∨ (∃ p ys, xs = [.ref p] ∧ (SqL K H p ys ∨ SqT K H p ys) ∧ Q (.int ys.length) H)) fLen := by
  intro W w σ S xs ds Q o rs h
  cases rs with
  | nil => exact h.elim
  | @cons v vs d ds r rs =>
    cases rs with
    | cons _ _ => cases d <;> exact h.elim
    | nil =>
      have seq : PoE K W w σ (match dSq S d with | some xs => .ok (.int xs.length) S | none => .bad) Q → (∃ p ys, [v] = [V.ref p] ∧ (SqL K w.H p ys ∨ SqT K w.H p ys) ∧ Q (.int ys.length) w.H) := fun h => by
        cases e : dSq S d with
        | none => rw [e] at h; exact h.elim
        | some xs =>
          rw [e] at h
          obtain ⟨p, vs, rfl, hp, hs⟩ := dSq_at o r e
          exact ⟨p, vs, rfl, hp.symm, by rw [hs.len]; exact h.now o (.int _)⟩
      cases r with
      | str z =>
        unfold fLen at h
        dsimp only at h
        split at h
        · rename_i hz
          exact .inl ⟨z, rfl, big_le hz, h.now o (.int _)⟩
        · exact h.elim
      | non => exact .inr (seq h)
      | bl _ => exact .inr (seq h)
      | int _ => exact .inr (seq h)
      | opq _ => exact .inr (seq h)
      | adr _ => exact .inr (seq h)
      | dct _ _ _ _ => exact .inr (seq h)
      | tup h1 h2 => exact .inr (seq h)
      | lst h1 h2 => exact .inr (seq h)
      | fz h1 h2 => exact .inr (seq h)
      | ref h1 => exact .inr (seq h)
theorem tr_len (hm : X.mg "len" = none) (ha : TrA X B W (e :: es) mA) (hg : Gl X "len" := by rfl) (he : starEach (e :: es) X.env = (false, eval e X.env) :: starEach es X.env := by rfl) (hpl : (backTo pos (starEach es X.env)).any (·.1) = false := by rfl) :
    Tr X B W (.Call (.Name "len" p) (e :: es) [] pos) (mBlt fLen mA) := tr_blt call_lenA so_len hm PySem.boot_len ha hg (by decide) (by decide) he hpl
/-- int -/
def fInt : Fn := fun ds S => match ds with
  | [.int i] => .ok (.int i) S
  | [.bl b] => .ok (.int (if b then 1 else 0)) S
  | [.str a] => match PySem.intText? a with
    | some n => if a.length ≤ 640 then .ok (.int n) S else .bad
    | none => .bad
  | _ => .bad
theorem call_intA : CallR X (.type "int") (fun xs H Q => ((∃ i, xs = [.int i] ∧ Q (.int i) H) ∨ ∃ k, xs = [.bl k] ∧ Q (.int (if k then 1 else 0)) H) ∨ (∃ a n, xs = [.str a] ∧ PySem.intText? a = some n ∧ a.length ≤ 640 ∧ Q (.int n) H)) := CallR.or call_int1 call_int_str
theorem so_int : SoC K (fun xs H Q => ((∃ i, xs = [.int i] ∧ Q (.int i) H) ∨ ∃ k, xs = [.bl k] ∧ Q (.int (if k then 1 else 0)) H) ∨ (∃ a n, xs = [.str a] ∧ PySem.intText? a = some n ∧ a.length ≤ 640 ∧ Q (.int n) H)) fInt := by
  intro W w σ S xs ds Q o rs h
  cases rs with
  | nil => exact h.elim
  | @cons v vs d ds r rs =>
    cases rs with
    | cons _ _ => cases d <;> exact h.elim
    | nil =>
      cases r with
      | int i => exact .inl (.inl ⟨i, rfl, h.now o (.int _)⟩)
      | bl b => exact .inl (.inr ⟨b, rfl, h.now o (.int _)⟩)
      | str a =>
        unfold fInt at h
        dsimp only at h
        cases e : PySem.intText? a with
        | none => rw [e] at h; exact h.elim
        | some n =>
          rw [e] at h
          dsimp only at h
          split at h
          · rename_i hz
            exact .inr ⟨a, n, rfl, e, hz, h.now o (.int _)⟩
          · exact h.elim
      | _ => exact h.elim
theorem tr_intc (hm : X.mg "int" = none) (ha : TrA X B W (e :: es) mA) (hg : Gl X "int" := by rfl) (he : starEach (e :: es) X.env = (false, eval e X.env) :: starEach es X.env := by rfl) (hpl : (backTo pos (starEach es X.env)).any (·.1) = false := by rfl) :
    Tr X B W (.Call (.Name "int" p) (e :: es) [] pos) (mBlt fInt mA) := tr_blty call_intA so_int hm (by decide +kernel) ha hg (by decide) (by decide) he hpl
/-- max(i, j), min(i, j) -/
def fMax2 : Fn := fun ds S => match ds with
  | [.int i, .int j] => .ok (.int (if j > i then j else i)) S
  | _ => .bad
def fMin2 : Fn := fun ds S => match ds with
  | [.int i, .int j] => .ok (.int (if j < i then j else i)) S
  | _ => .bad
theorem so_max2 : SoC K (fun xs H Q => ∃ i j, xs = [.int i, .int j] ∧ Q (.int (if j > i then j else i)) H) fMax2 := by
  intro W w σ S xs ds Q o rs h
  unfold fMax2 at h
  split at h
  · rename_i i j
    cases rs with
    | cons r1 rs =>
      cases rs with
      | cons r2 rs =>
        cases rs
        cases r1
        cases r2
        exact ⟨i, j, rfl, h.now o (.int _)⟩
  · exact h.elim
theorem so_min2 : SoC K (fun xs H Q => ∃ i j, xs = [.int i, .int j] ∧ Q (.int (if j < i then j else i)) H) fMin2 := by
  intro W w σ S xs ds Q o rs h
  unfold fMin2 at h
  split at h
  · rename_i i j
    cases rs with
    | cons r1 rs =>
      cases rs with
      | cons r2 rs =>
        cases rs
        cases r1
        cases r2
        exact ⟨i, j, rfl, h.now o (.int _)⟩
  · exact h.elim
theorem tr_max2 (hm : X.mg "max" = none) (ha : TrA X B W (e :: es) mA) (hc : X.calm = true := by rfl) (hg : Gl X "max" := by rfl) (he : starEach (e :: es) X.env = (false, eval e X.env) :: starEach es X.env := by rfl) (hpl : (backTo pos (starEach es X.env)).any (·.1) = false := by rfl) :
    Tr X B W (.Call (.Name "max" p) (e :: es) [] pos) (mBlt fMax2 mA) := tr_blt (call_max2 hc) so_max2 hm (by decide +kernel) ha hg (by decide) (by decide) he hpl
theorem tr_min2 (hm : X.mg "min" = none) (ha : TrA X B W (e :: es) mA) (hc : X.calm = true := by rfl) (hg : Gl X "min" := by rfl) (he : starEach (e :: es) X.env = (false, eval e X.env) :: starEach es X.env := by rfl) (hpl : (backTo pos (starEach es X.env)).any (·.1) = false := by rfl) :
    Tr X B W (.Call (.Name "min" p) (e :: es) [] pos) (mBlt fMin2 mA) := tr_blt (call_min2 hc) so_min2 hm (by decide +kernel) ha hg (by decide) (by decide) he hpl
/-- tuple(x) -/
def fTuple : Fn := fun ds S => match ds with
  | [.tup xs] => .ok (.tup xs) S
  | [d] => match dL S d with
    | some xs => .ok (.tup xs) S
    | none => .bad
  | _ => .bad
theorem so_tuple : SoC K (fun xs H Q => ∃ p ys, xs = [.ref p] ∧ ((SqL K H p ys ∧ ∀ l, H l = none → Q (.ref l) (upd H l (.tup ys))) ∨ (SqT K H p ys ∧ Q (.ref p) H))) fTuple := by
  intro W w σ S xs ds Q o rs h
  cases rs with
  | nil => exact h.elim
  | @cons v vs d ds r rs =>
    cases rs with
    | cons _ _ => cases d <;> exact h.elim
    | nil =>
      have ls : PoE K W w σ (match dL S d with | some xs => .ok (.tup xs) S | none => .bad) Q → (∃ p ys, [v] = [V.ref p] ∧ ((SqL K w.H p ys ∧ ∀ l, w.H l = none → Q (.ref l) (upd w.H l (.tup ys))) ∨ (SqT K w.H p ys ∧ Q (.ref p) w.H))) := fun h => by
        cases e : dL S d with
        | none => rw [e] at h; exact h.elim
        | some xs =>
          rw [e] at h
          obtain ⟨p, vs, rfl, hp, hs⟩ := dL_at o r e
          exact ⟨p, vs, rfl, .inl ⟨hp, fun l hl => mkT_ok o h hs l hl⟩⟩
      cases r with
      | @tup p vs xs h1 h2 => exact ⟨p, vs, rfl, .inr ⟨sqT_sub o.sub h1, h.now o (.tup h1 h2)⟩⟩
      | str z => exact ls h
      | non => exact ls h
      | bl _ => exact ls h
      | int _ => exact ls h
      | opq _ => exact ls h
      | adr _ => exact ls h
      | dct _ _ _ _ => exact ls h
      | lst h1 h2 => exact ls h
      | fz h1 h2 => exact ls h
      | ref h1 => exact ls h
theorem tr_tuplec (hm : X.mg "tuple" = none) (ha : TrA X B W (e :: es) mA) (hg : Gl X "tuple" := by rfl) (he : starEach (e :: es) X.env = (false, eval e X.env) :: starEach es X.env := by rfl) (hpl : (backTo pos (starEach es X.env)).any (·.1) = false := by rfl) :
    Tr X B W (.Call (.Name "tuple" p) (e :: es) [] pos) (mBlt fTuple mA) := tr_blty call_tuple_of so_tuple hm (by decide +kernel) ha hg (by decide) (by decide) he hpl
end
end Fx
end

section
set_option Elab.async false
set_option linter.all false
set_option maxRecDepth 100000
set_option maxHeartbeats 2000000
namespace Fx
open PySem PySem.Spec PyProof.Rows L2
variable [Nam]

/-! ## a thing at the side: it stands in the heap, nobody knows it yet -/
section
variable {K : Kw} {B : Bs} {W : WX} {w w0 : Wd} {σ : L2.St} {Γ : En} {S : Sto} {p : Addr} {u : HO}
theorem Wd.Ok.side (o : w.Ok K S) (h : w.H p = none ∨ (p ∉ w.r ∧ w.F p = none)) (hu : ∀ ps, u ≠ .tbl ps := by exact fun _ z => (nomatch z)) : (⟨w.r, w.F, upd w.H p u⟩ : Wd).Ok K S ∧ (w.H p = none → Step w ⟨w.r, w.F, upd w.H p u⟩) := by
  have hr : p ∉ w.r := h.elim o.notin (·.1)
  have hF : w.F p = none := h.elim o.noF (·.2)
  refine ⟨⟨fun a y e => ?_, o.len, o.nd, fun n y a e1 e2 => ?_, o.out, fun n a e2 => ?_, o.ntb⟩, fun hn => ⟨List.prefix_refl _, SubH.refl _, fun a y e _ _ => ?_, frz_upd (lo_none hn), dom_upd hu, tabs_upd (lo_none hn), fun a hm => .inl hm, fun a hm => .inl hm⟩⟩
  · show upd w.H p u a = some y
    rw [upd_ne (ne_of_none e hF)]
    exact o.sub a y e
  · exact (o.obj n y a e1 e2).up (List.prefix_refl _) (SubH.refl _) (upd_ne fun z => hr (by rw [← z]; exact List.mem_of_getElem? e2))
  · show upd w.H p u a ≠ none
    by_cases ha : a = p
    · rw [ha, upd_same]; simp
    · rw [upd_ne ha]
      exact o.there n a e2
  · show upd w.H p u a = some y
    rw [upd_ne (ne_of_none e hn)]
    exact e
theorem Step.sideBack (t : Step w0 w) (h : w0.H p = none) (hr : p ∉ w.r) (hL : Lo p (w.H p)) (hu : ∀ ps, u ≠ .tbl ps := by exact fun _ z => (nomatch z)) : Step w0 ⟨w.r, w.F, upd w.H p u⟩ := ⟨t.pre, t.sub, fun a y e ha nt => by
    show upd w.H p u a = some y
    rw [upd_ne (ne_of_none e h)]
    exact t.frame a y e ha nt, fun a o z e => frz_upd hL a o z (t.frz a o z e), fun a e n => dom_upd hu a (t.dom a e n).1 (t.dom a e n).2, fun e => tabs_upd hL (t.tabs e), t.newr, t.newF⟩
/-- it is taken in: it will not change any more -/
theorem Wd.Ok.takeF (o : w.Ok K S) (t : Step w0 w) (h : w0.H p = none) (hr : p ∉ w.r) (hF : w.F p = none) (hL : Lo p (w.H p)) (hu : ∀ ps, u ≠ .tbl ps := by exact fun _ z => (nomatch z)) : (⟨w.r, upd w.F p u, upd w.H p u⟩ : Wd).Ok K S ∧ Step w0 ⟨w.r, upd w.F p u, upd w.H p u⟩ ∧ SubH w.F (upd w.F p u) := by
  refine ⟨⟨fun a x e => ?_, o.len, o.nd, fun n x a e1 e2 => ?_, fun n x a e1 e2 ne => ?_, fun n a e2 => ?_, ntb_upd o.ntb hu⟩, ⟨t.pre, t.sub.trans (sub_new hF), fun a x e ha nt => ?_, fun a o z e => frz_upd hL a o z (t.frz a o z e), fun a e n => dom_upd hu a (t.dom a e n).1 (t.dom a e n).2, fun e => tabs_upd hL (t.tabs e), t.newr, fun a hm => ?_⟩, sub_new hF⟩
  · show upd w.H p u a = some x
    have e : upd w.F p u a = some x := e
    by_cases hp : a = p
    · subst hp
      rw [upd_same] at e ⊢
      exact e
    · rw [upd_ne hp] at e ⊢
      exact o.sub a x e
  · exact (o.obj n x a e1 e2).up (List.prefix_refl _) (sub_new hF) (upd_ne fun z => hr (by rw [← z]; exact List.mem_of_getElem? e2))
  · show upd w.F p u a = none
    rw [upd_ne fun z => hr (by rw [← z]; exact List.mem_of_getElem? e2)]
    exact o.out n x a e1 e2 ne
  · show upd w.H p u a ≠ none
    rw [upd_ne fun z => hr (by rw [← z]; exact List.mem_of_getElem? e2)]
    exact o.there n a e2
  · show upd w.H p u a = some x
    rw [upd_ne (ne_of_none e h)]
    exact t.frame a x e ha nt
  · by_cases hp : a = p
    · exact .inr (.inl (.inl (by rw [hp]; exact h)))
    · have hm' : upd w.F p u a ≠ none := hm
      exact t.newF a (by rw [upd_ne hp] at hm'; exact hm')
/-- .. it may change -/
theorem Wd.Ok.takeM (o : w.Ok K S) (t : Step w0 w) (h : w0.H p = none) (hr : p ∉ w.r) (hF : w.F p = none) (hL : Lo p (w.H p)) {x : O} (hx : RepO K (w.r ++ [p]) w.F (upd w.H p u) p x) : (⟨w.r ++ [p], w.F, upd w.H p u⟩ : Wd).Ok K (S ++ [x]) ∧ Step w0 ⟨w.r ++ [p], w.F, upd w.H p u⟩ := by
  have hlen : w.r.length = S.length := o.len
  refine ⟨⟨fun a y e => ?_, ?_, ?_, fun n y a e1 e2 => ?_, fun n y a e1 e2 ne => ?_, fun n a e2 => ?_, o.ntb⟩, ⟨t.pre.trans (pre_app _ _), t.sub, fun a y e ha nt => ?_, fun a o z e => frz_upd hL a o z (t.frz a o z e), fun a e n => dom_upd (upd_ntb hx) a (t.dom a e n).1 (t.dom a e n).2, fun e => tabs_upd hL (t.tabs e), fun a hm => ?_, t.newF⟩⟩
  · show upd w.H p u a = some y
    rw [upd_ne (ne_of_none e hF)]
    exact o.sub a y e
  · show (w.r ++ [p]).length = (S ++ [x]).length
    rw [List.length_append, List.length_append, hlen] <;> rfl
  · show (w.r ++ [p]).Nodup
    rw [List.nodup_append]
    refine ⟨o.nd, by simp, fun a ha b hb z => ?_⟩
    simp at hb
    subst hb
    subst z
    exact hr ha
  · have e2 : (w.r ++ [p])[n]? = some a := e2
    by_cases hn : n < S.length
    · rw [List.getElem?_append_left hn] at e1
      rw [List.getElem?_append_left (by omega)] at e2
      exact (o.obj n y a e1 e2).up (pre_app _ _) (SubH.refl _) (upd_ne fun z => hr (by rw [← z]; exact List.mem_of_getElem? e2))
    · have hn2 : n < (S ++ [x]).length := (List.getElem?_eq_some_iff.mp e1).1
      rw [List.length_append] at hn2
      have hn3 : n = S.length := by simp at hn2; omega
      subst hn3
      rw [List.getElem?_append_right (Nat.le_refl _), Nat.sub_self] at e1
      rw [List.getElem?_append_right (by omega), hlen, Nat.sub_self] at e2
      cases e1
      cases e2
      exact hx
  · have e2 : (w.r ++ [p])[n]? = some a := e2
    by_cases hn : n < S.length
    · rw [List.getElem?_append_left hn] at e1
      rw [List.getElem?_append_left (by omega)] at e2
      exact o.out n y a e1 e2 ne
    · have hn2 : n < (S ++ [x]).length := (List.getElem?_eq_some_iff.mp e1).1
      rw [List.length_append] at hn2
      have hn3 : n = S.length := by simp at hn2; omega
      subst hn3
      rw [List.getElem?_append_right (by omega), hlen, Nat.sub_self] at e2
      cases e2
      exact hF
  · have e2 : (w.r ++ [p])[n]? = some a := e2
    show upd w.H p u a ≠ none
    by_cases hp : a = p
    · rw [hp, upd_same]; simp
    · rw [upd_ne hp]
      by_cases hn : n < w.r.length
      · rw [List.getElem?_append_left hn] at e2
        exact o.there n a e2
      · rw [List.getElem?_append_right (by omega)] at e2
        obtain ⟨_, e3⟩ := List.getElem?_eq_some_iff.mp e2
        simp at e3
        exact absurd e3.symm hp
  · show upd w.H p u a = some y
    rw [upd_ne (ne_of_none e h)]
    exact t.frame a y e ha nt
  · rcases List.mem_append.mp hm with z | z
    · exact t.newr a z
    · simp at z
      exact .inr (.inl (by rw [z]; exact h))
/-- what stays of a thing at the side -/
theorem Step.at_side {w w' : Wd} (t : Step w w') {p : Addr} {u : HO} (e : w.H p = some u) (hr : p ∉ w.r) (hF : w.F p = none) (nt : ∀ ps, u ≠ .tbl ps := by intro _ z; cases z) : w'.H p = some u ∧ p ∉ w'.r ∧ w'.F p = none := by
  refine ⟨t.frame p u e hr nt, fun hm => ?_, ?_⟩
  · rcases t.newr p hm with h | h
    · exact hr h
    · exact h.not e nt
  · cases q : w'.F p with
    | none => rfl
    | some z =>
      rcases t.newF p (by rw [q]; simp) with h | h | h
      · exact absurd hF h
      · exact (h.not e nt).elim
      · exact absurd h hr
theorem upd_id {H : Hp} {p : Addr} {u : HO} (e : H p = some u) : upd H p u = H := by
  funext a
  by_cases h : a = p
  · rw [h, upd_same, e]
  · rw [upd_ne h]
/-- the list at the side is handed on -/
theorem takeL {f : Bool} {xs : List D} {vs : List V} {Q : VK} (o : w.Ok K S) (t : Step w0 w) (h : w0.H p = none) (hr : p ∉ w.r) (hF : w.F p = none) (e : w.H p = some (.lst vs)) (r : Reps K w.r w.F vs xs) (q : PoE K W w0 σ (mkL f xs S) Q) : Q (.ref p) w.H := by
  have eH := upd_id e
  have hL : Lo p (w.H p) := by rw [e]; exact lo_lst
  cases f with
  | true =>
    obtain ⟨o', t', s'⟩ := o.takeF (u := .lst vs) t h hr hF hL
    rw [eH] at o' t'
    exact q ⟨w.r, upd w.F p (.lst vs), w.H⟩ (.ref p) t' o' (.lst upd_same (r.up (List.prefix_refl _) s'))
  | false =>
    obtain ⟨o', t'⟩ := o.takeM (u := .lst vs) (x := .lst xs) t h hr hF hL ⟨vs, upd_same, r.up (pre_app _ _) (SubH.refl _)⟩
    rw [eH] at o' t'
    refine q ⟨w.r ++ [p], w.F, w.H⟩ (.ref p) t' o' (.ref ?_)
    rw [List.getElem?_append_right (by rw [o.len]; exact Nat.le_refl _), o.len, Nat.sub_self]
    rfl
end

/-! ## what is walked -/
inductive Sr where
  | seq (d : D) | tup (xs : List D) | rng (lo : Int) (n : Nat) | txt (x : Str)
def itS : Sr → Nat → Sto → Option (Option D)
  | .seq d, i, S => (dL S d).map fun xs => xs[i]?
  | .tup xs, i, _ => some xs[i]?
  | .rng lo n, i, _ => some (if i < n then some (.int (lo + i)) else none)
  | .txt x, i, _ => some (x.cps[i]?.map fun c => .str ⟨#[c]⟩)
/-- how many turns at most, and one more -/
def lenS : Sr → Sto → Nat
  | .seq d, S => ((dL S d).getD []).length + 1
  | .tup xs, _ => xs.length + 1
  | .rng _ n, _ => n + 1
  | .txt x, _ => x.length + 1
def SrOk (K : Kw) (w : Wd) (J : It) : Sr → Prop
  | .seq d => ∃ a, J = Itl K a ∧ Rep K w.r w.F (.ref a) d
  | .tup xs => ∃ a, J = Itt K a ∧ Rep K w.r w.F (.ref a) (.tup xs)
  | .rng lo n => J = Itr lo n
  | .txt x => J = Its x
section
variable {K : Kw} {B : Bs} {W : WX} {w w' w0 : Wd} {σ : L2.St} {Γ : En} {S : Sto}
theorem SrOk.step {J : It} {s : Sr} (t : Step w w') (h : SrOk K w J s) : SrOk K w' J s := by
  cases s with
  | seq d => obtain ⟨a, e, r⟩ := h; exact ⟨a, e, r.up t.pre t.sub⟩
  | tup d => obtain ⟨a, e, r⟩ := h; exact ⟨a, e, r.up t.pre t.sub⟩
  | rng lo n => exact h
  | txt x => exact h
theorem sr_stop {J : It} {s : Sr} {i : Nat} (o : w.Ok K S) (h : SrOk K w J s) (e : itS s i S = some none) : J.stop i w.H := by
  cases s with
  | seq d =>
    obtain ⟨a, rfl, r⟩ := h
    unfold itS at e
    dsimp only at e
    cases e1 : dL S d with
    | none => rw [e1] at e; cases e
    | some xs =>
      rw [e1] at e
      obtain ⟨a', vs, ea, h1, h2⟩ := dL_at o r e1
      cases ea
      have e : xs[i]? = none := Option.some.inj e
      exact ⟨vs, h1, by rw [h2.len]; exact List.getElem?_eq_none_iff.mp e⟩
  | tup xs =>
    obtain ⟨a, rfl, r⟩ := h
    obtain ⟨a', vs, ea, h1, h2⟩ := tup_at o r
    cases ea
    have e : xs[i]? = none := Option.some.inj e
    exact ⟨vs, h1, by rw [h2.len]; exact List.getElem?_eq_none_iff.mp e⟩
  | rng lo n =>
    have h : J = Itr lo n := h
    subst h
    unfold itS at e
    dsimp only at e
    by_cases hi : i < n
    · rw [if_pos hi] at e; cases e
    · exact Nat.le_of_not_lt hi
  | txt x =>
    have h : J = Its x := h
    subst h
    have e : (x.cps[i]?.map fun c => D.str ⟨#[c]⟩) = none := Option.some.inj e
    have e : x.cps[i]? = none := by
      cases q : x.cps[i]? with
      | none => rfl
      | some c => rw [q] at e; cases e
    exact Array.getElem?_eq_none_iff.mp e
theorem sr_go {J : It} {s : Sr} {i : Nat} {d : D} (o : w.Ok K S) (h : SrOk K w J s) (e : itS s i S = some (some d)) : J.go i w.H ∧ ∀ x H', J.yld i w.H x H' → ∃ F', Wd.Ok K ⟨w.r, F', H'⟩ S ∧ Step w ⟨w.r, F', H'⟩ ∧ Rep K w.r F' x d := by
  cases s with
  | seq d0 =>
    obtain ⟨a, rfl, r⟩ := h
    unfold itS at e
    dsimp only at e
    cases e1 : dL S d0 with
    | none => rw [e1] at e; cases e
    | some xs =>
      rw [e1] at e
      obtain ⟨a', vs, ea, h1, h2⟩ := dL_at o r e1
      cases ea
      have e : xs[i]? = some d := Option.some.inj e
      obtain ⟨v, h3, h4⟩ := h2.get e
      refine ⟨⟨vs, v, h1, h3⟩, fun x H' ⟨eH, y⟩ => ?_⟩
      subst eH
      have := (y vs h1).symm.trans h3
      cases this
      exact ⟨w.F, o, Step.refl _, h4⟩
  | tup xs =>
    obtain ⟨a, rfl, r⟩ := h
    obtain ⟨a', vs, ea, h1, h2⟩ := tup_at o r
    cases ea
    have e : xs[i]? = some d := Option.some.inj e
    obtain ⟨v, h3, h4⟩ := h2.get e
    refine ⟨⟨vs, v, h1, h3⟩, fun x H' ⟨eH, y⟩ => ?_⟩
    subst eH
    have := (y vs h1).symm.trans h3
    cases this
    exact ⟨w.F, o, Step.refl _, h4⟩
  | rng lo n =>
    have h : J = Itr lo n := h
    subst h
    unfold itS at e
    dsimp only at e
    by_cases hi : i < n
    · rw [if_pos hi] at e
      cases e
      refine ⟨hi, fun x H' ⟨eH, y⟩ => ?_⟩
      subst eH
      subst y
      exact ⟨w.F, o, Step.refl _, .int _⟩
    · rw [if_neg hi] at e; cases e
  | txt x =>
    have h : J = Its x := h
    subst h
    have e : (x.cps[i]?.map fun c => D.str ⟨#[c]⟩) = some d := Option.some.inj e
    cases q : x.cps[i]? with
    | none => rw [q] at e; cases e
    | some c =>
      rw [q] at e
      cases e
      obtain ⟨hlt, _⟩ := Array.getElem?_eq_some_iff.mp q
      refine ⟨hlt, fun y H' ⟨eH, c', hc, ey⟩ => ?_⟩
      subst eH
      rw [q] at hc
      cases hc
      subst ey
      exact ⟨w.F, o, Step.refl _, .str _⟩
abbrev Id' := En → Sto → Res Sr
def PoI (K : Kw) (W : WX) (w : Wd) (σ : L2.St) (r : Res Sr) (Q : It → Hp → Prop) : Prop := match r with
  | .ok s S' => ∀ w' J, Step w w' → w'.Ok K S' → SrOk K w' J s → Q J w'.H
  | .exc c fs S' => ∀ w' dx vs, Step w w' → w'.Ok K S' → ExAt w' dx vs → Fld K w'.r w'.F vs fs → W (.ref c) (some dx) σ w'.H
  | .bad => False
def cI (K : Kw) (B : Bs) (W : WX) (m : Id') : TI := fun σ H Q => ∃ r F Γ S, Wd.Ok K ⟨r, F, H⟩ S ∧ EnOk K B ⟨r, F, H⟩ Γ σ ∧ PoI K W ⟨r, F, H⟩ σ (m Γ S) Q
def TrI (X : Cx) (B : Bs) (W : WX) (tg iter : Expr) (m : Id') : Prop := PI X tg iter (cI X.kw B W m)
theorem PoI.step {r : Res Sr} {Q : It → Hp → Prop} (t : Step w w') (h : PoI K W w σ r Q) : PoI K W w' σ r Q := by
  cases r with
  | ok d S => exact fun w2 v t2 o r => h w2 v (t.trans t2) o r
  | exc c fs S => exact fun w2 dx vs t2 o e r => h w2 dx vs (t.trans t2) o e r
  | bad => exact h
theorem PoI.bindE {r : Res D} {f : D → Sto → Res Sr} {Q : It → Hp → Prop} {Q' : VK} (h : PoI K W w σ (r.bind f) Q) (k : ∀ d S w' v, r = .ok d S → Step w w' → w'.Ok K S → Rep K w'.r w'.F v d → PoI K W w' σ (f d S) Q → Q' v w'.H) : PoE K W w σ r Q' := by
  cases r with
  | ok d S => exact fun w2 v t o r => k d S w2 v rfl t o r (PoI.step t h)
  | exc c fs S => exact h
  | bad => exact h
theorem PoI.bindA {r : Res (List D)} {f : List D → Sto → Res Sr} {Q : It → Hp → Prop} {Q' : List V → Hp → Prop} (h : PoI K W w σ (r.bind f) Q) (k : ∀ d S w' v, r = .ok d S → Step w w' → w'.Ok K S → Reps K w'.r w'.F v d → PoI K W w' σ (f d S) Q → Q' v w'.H) : PoA K W w σ r Q' := by
  cases r with
  | ok d S => exact fun w2 v t o r => k d S w2 v rfl t o r (PoI.step t h)
  | exc c fs S => exact h
  | bad => exact h
theorem imI {X : Cx} {tg iter : Expr} {t t' : TI} (h : PI X tg iter t) (k : ∀ σ H Q, t' σ H Q → t σ H Q) : PI X tg iter t' := ⟨fun p s σ H Q I q => h.run p s σ H Q I (k _ _ _ q)⟩
end
section
variable {X : Cx} {B : Bs} {W : WX} {a b e tg : Expr} {es : List Expr} {p pos : Pos} {ma mb : Ed} {mA : Ad}
def iSeq (a : Ed) : Id' := fun Γ S => (a Γ S).bind fun x S1 => match dL S1 x with
  | some _ => .ok (.seq x) S1
  | none => .bad
def iTupD (a : Ed) : Id' := fun Γ S => (a Γ S).bind fun x S1 => match x with
  | .tup xs => .ok (.tup xs) S1
  | _ => .bad
theorem ti_seq (ha : Tr X B W a ma) : TrI X B W tg a (iSeq ma) := by
  refine imI (pi_list ha) fun σ H Q h => ?_
  obtain ⟨r0, F0, Γ, S, o, g, q⟩ := h
  refine ⟨r0, F0, Γ, S, o, g, PoI.bindE q fun d S1 w1 v _ t1 o1 rp1 q1 => ?_⟩
  cases e1 : dL S1 d with
  | none => rw [e1] at q1; exact q1.elim
  | some xs =>
    rw [e1] at q1
    obtain ⟨a, vs, rfl, h1, h2⟩ := dL_at o1 rp1 e1
    exact ⟨a, rfl, ⟨vs, h1⟩, q1 w1 _ (Step.refl _) o1 ⟨a, rfl, rp1⟩⟩
theorem ti_tup (ha : Tr X B W a ma) : TrI X B W tg a (iTupD ma) := by
  refine imI (pi_tup ha) fun σ H Q h => ?_
  obtain ⟨r0, F0, Γ, S, o, g, q⟩ := h
  refine ⟨r0, F0, Γ, S, o, g, PoI.bindE q fun d S1 w1 v _ t1 o1 rp1 q1 => ?_⟩
  cases d with
  | tup xs =>
    obtain ⟨a, vs, rfl, h1, h2⟩ := tup_at o1 rp1
    exact ⟨a, rfl, ⟨vs, h1⟩, q1 w1 _ (Step.refl _) o1 ⟨a, rfl, rp1⟩⟩
  | _ => exact q1.elim
def InB (j : Int) : Prop := -(2 ^ 62) ≤ j ∧ j < 2 ^ 62
instance : ∀ j, Decidable (InB j) := fun j => by unfold InB; infer_instance
def rng1 (ds : List D) (S : Sto) : Res Sr := match ds with
  | [.int j] => if InB j then .ok (.rng 0 j.toNat) S else .bad
  | _ => .bad
def rng2 (ds : List D) (S : Sto) : Res Sr := match ds with
  | [.int i, .int j] => if InB i ∧ InB j then .ok (.rng i (j - i).toNat) S else .bad
  | _ => .bad
def iRg (f : List D → Sto → Res Sr) (a : Ad) : Id' := fun Γ S => (a Γ S).bind f
theorem ti_rng1 (hm : X.mg "range" = none) (ha : TrA X B W [a] mA) (hg : Gl X "range" := by rfl) (hs : starEach [a] X.env = [(false, eval a X.env)] := by rfl) : TrI X B W tg (.Call (.Name "range" p) [a] [] pos) (iRg rng1 mA) := by
  refine imI (pi_range1 hg hm ha hs) fun σ H Q h => ?_
  obtain ⟨r0, F0, Γ, S, o, g, q⟩ := h
  refine ⟨r0, F0, Γ, S, o, g, PoI.bindA q fun d S1 w1 v hd t1 o1 rp1 q1 => ?_⟩
  unfold rng1 at q1
  split at q1
  · rename_i j
    split at q1
    · rename_i hb
      cases rp1 with
      | cons r rs =>
        cases rs
        cases r
        exact ⟨j, rfl, hb.1, hb.2, q1 w1 _ (Step.refl _) o1 rfl⟩
    · exact q1.elim
  · exact q1.elim
theorem ti_rng2 (hm : X.mg "range" = none) (ha : TrA X B W [a, b] mA) (hg : Gl X "range" := by rfl) (hs : starEach [a, b] X.env = [(false, eval a X.env), (false, eval b X.env)] := by rfl) (hs2 : starEach [b] X.env = [(false, eval b X.env)] := by rfl) : TrI X B W tg (.Call (.Name "range" p) [a, b] [] pos) (iRg rng2 mA) := by
  refine imI (pi_range2 hg hm ha hs hs2) fun σ H Q h => ?_
  obtain ⟨r0, F0, Γ, S, o, g, q⟩ := h
  refine ⟨r0, F0, Γ, S, o, g, PoI.bindA q fun d S1 w1 v hd t1 o1 rp1 q1 => ?_⟩
  unfold rng2 at q1
  split at q1
  · rename_i i j
    split at q1
    · rename_i hb
      cases rp1 with
      | cons r rs =>
        cases rs with
        | cons r2 rs =>
          cases rs
          cases r
          cases r2
          exact ⟨i, j, rfl, ⟨hb.1.1, hb.1.2, hb.2.1, hb.2.2⟩, q1 w1 _ (Step.refl _) o1 rfl⟩
    · exact q1.elim
  · exact q1.elim
end

/-! ## targets -/
abbrev Td := D → En → Option En
def cG (K : Kw) (B : Bs) (m : Td) : TG := fun v σ H Q => ∃ r F Γ S d Γ', Wd.Ok K ⟨r, F, H⟩ S ∧ EnOk K B ⟨r, F, H⟩ Γ σ ∧ Rep K r F v d ∧ m d Γ = some Γ' ∧ ∀ σ', EnOk K B ⟨r, F, H⟩ Γ' σ' → Q σ' H
def TrG (X : Cx) (B : Bs) (tg : Expr) (m : Td) : Prop := PG X tg (cG X.kw B m)
theorem imG {X : Cx} {tg : Expr} {t t' : TG} (h : PG X tg t) (k : ∀ v σ H Q, t' v σ H Q → t v σ H Q) : PG X tg t' := ⟨fun p s σ H v u Q I r q => h.run p s σ H v u Q I r (k _ _ _ _ q)⟩
def gN (i : Nat) : Td := fun d Γ => some (Γ.set i (some d))
def gNs : List Nat → List D → En → Option En
  | [], [], Γ => some Γ
  | i :: is, d :: ds, Γ => gNs is ds (Γ.set i (some d))
  | _, _, _ => none
def gT (is : List Nat) : Td := fun d Γ => match d with
  | .tup xs => gNs is xs Γ
  | _ => none
section
variable {X : Cx} {B : Bs} {tg : Expr}
theorem tg_name (i : Nat) {x : Str} {pos : Pos} (nd : X.N.Nodup) (kp : Keeps B i) (hi : X.N[i]? = some x := by rfl) (hx : Loc X.env.scope x := by first | exact Or.inl rfl | exact Or.inr rfl) (hf : X.fn x = true ∨ X.env.scope.names.lookup x = some .local := by first | exact .inl rfl | exact .inr rfl) : TrG X B (.Name x pos) (gN i) := by
  refine imG (pg_name (i := i) nd hi hx hf) fun v σ H Q h => ?_
  obtain ⟨r, F, Γ, S, d, Γ', o, g, rp, e, q⟩ := h
  cases e
  exact q _ (g.set kp rp)
def gSeq : List Nat → TGs
  | [] => gNil
  | i :: is => gCons (gName i) (gSeq is)
theorem gSeq_ok {w : Wd} {Q : L2.St → Hp → Prop} {Γ' : En} : ∀ {is : List Nat} {vs : List V} {ds : List D} {σ : L2.St} {Γ : En}, (∀ i, Keeps B i) → EnOk X.kw B w Γ σ → Reps X.kw w.r w.F vs ds → gNs is ds Γ = some Γ' → (∀ σ', EnOk X.kw B w Γ' σ' → Q σ' w.H) → gSeq is vs σ w.H Q
  | [], [], [], σ, Γ, _, g, _, e, q => ⟨rfl, q σ (by cases e; exact g)⟩
  | [], _ :: _, _ :: _, _, _, _, _, _, e, _ => by cases e
  | i :: is, [], [], _, _, _, _, _, e, _ => by cases e
  | i :: is, v :: vs, d :: ds, σ, Γ, kp, g, .cons h hs, e, q => ⟨v, vs, rfl, gSeq_ok kp (g.set (kp i) h) hs e q⟩
theorem gNs_len {Γ' : En} : ∀ {is : List Nat} {ds : List D} {Γ : En}, gNs is ds Γ = some Γ' → ds.length = is.length
  | [], [], _, _ => rfl
  | [], _ :: _, _, e => by cases e
  | _ :: _, [], _, e => by cases e
  | _ :: is, _ :: ds, _, e => congrArg (· + 1) (gNs_len (is := is) (ds := ds) e)
theorem tg_tup {es : List Expr} {k : Nat} {pos : Pos} (is : List Nat) (kp : ∀ i, Keeps B i) (hst : PG X (.Tuple es k pos) (gTup X.kw is.length (gSeq is))) : TrG X B (.Tuple es k pos) (gT is) := by
  refine imG hst fun v σ H Q h => ?_
  obtain ⟨r, F, Γ, S, d, Γ', o, g, rp, e, q⟩ := h
  cases d with
  | tup xs =>
    have e : gNs is xs Γ = some Γ' := e
    obtain ⟨a, vs, rfl, h1, h2⟩ := tup_at o rp
    exact ⟨a, vs, rfl, h1, by rw [h2.len]; exact gNs_len e, gSeq_ok (w := ⟨r, F, H⟩) kp g h2 e q⟩
  | _ => cases e
end

/-! ## list comprehensions -/
def wipeE (Γ : En) : List Nat → En
  | [] => Γ
  | v :: vs => (wipeE Γ vs).set v none
theorem wipe_ok {K : Kw} {w : Wd} {Γ : En} {σ : L2.St} (kp : ∀ i, Keeps B i) (g : EnOk K B w Γ σ) : ∀ vs : List Nat, EnOk K B w (wipeE Γ vs) (wipe σ vs)
  | [] => g
  | v :: vs => (wipe_ok kp g vs).forget (kp v)
abbrev W0 : WX := fun _ _ _ _ => False
def lcL (s : Sr) (tg : Td) (Γ : En) (cnd : Bd) (elt : Ed) : Nat → Nat → List D → Sto → Res (List D)
  | 0, _, _, _ => .bad
  | n + 1, i, acc, S => match itS s i S with
    | none => .bad
    | some none => .ok acc S
    | some (some d) => match tg d Γ with
      | none => .bad
      | some Γ1 => match cnd Γ1 S with
        | .ok true S1 => match elt Γ1 S1 with
          | .ok y S2 => if acc.length < big then lcL s tg Γ cnd elt n (i + 1) (acc ++ [y]) S2 else .bad
          | _ => .bad
        | .ok false S1 => lcL s tg Γ cnd elt n (i + 1) acc S1
        | _ => .bad
def mLc (f : Bool) (vs : List Nat) (src : Id') (tg : Td) (cnd : Bd) (elt : Ed) : Ed := fun Γ S => (src Γ S).bind fun s S1 => (lcL s tg (wipeE Γ vs) cnd elt (lenS s S1) 0 [] S1).bind fun xs S2 => mkL f xs S2
def bYes : Bd := fun _ S => .ok true S
/-- the tests of a comprehension -/
def TrT (X : Cx) (B : Bs) (ifs : List Expr) (m : Bd) : Prop := PTs X ifs (cB X.kw B W0 m)
theorem tt_nil {X : Cx} : TrT X B [] bYes := ⟨fun p s σ H Q I ⟨r, F, Γ, S, o, g, q⟩ => pts_nil.run p s σ H Q I (q _ (Step.refl _) o)⟩
theorem tt_one {X : Cx} {c : Expr} {m : Bd} (h : TrB X B W0 c m) : TrT X B [c] m := pts_one h
theorem so_lc {K : Kw} {B : Bs} {W : WX} {f : Bool} {vs : List Nat} {σ : L2.St} {g : TG} {tg : Td} {cnd : Bd} {elt : Ed} {s : Sr} {J : It} {w0 : Wd} {Γ : En} {S : Sto} {Q : VK}
    (hg : ∀ {w : Wd} {S : Sto} {v : V} {d : D} {Γ' : En} {R : L2.St → Hp → Prop}, w.Ok K S → Rep K w.r w.F v d → EnOk K B w (wipeE Γ vs) (wipe σ vs) → tg d (wipeE Γ vs) = some Γ' → (∀ σ', EnOk K B w Γ' σ' → wipe σ' vs = wipe σ vs → R σ' w.H) → g v (wipe σ vs) w.H R)
    (kp : ∀ i, Keeps B i) (o0 : w0.Ok K S) (g0 : EnOk K B w0 Γ σ) (hs : SrOk K w0 J s) (q : PoE K W w0 σ ((lcL s tg (wipeE Γ vs) cnd elt (lenS s S) 0 [] S).bind fun xs S2 => mkL f xs S2) Q) (D0 : Addr) (hD : w0.H D0 = none) :
    ∃ Wt : Nat → Nat → Hp → Prop, (∃ m, Wt 0 m (upd w0.H D0 (.lst []))) ∧ ∀ i m H, Wt i m H →
      (J.stop i H ∧ Q (.ref D0) H) ∨ (J.go i H ∧ ∃ Nx : Hp → Prop, (∀ H', Nx H' → ∃ m', m' < m ∧ Wt (i + 1) m' H') ∧ ∀ x H', J.yld i H x H' → g x (wipe σ vs) H' fun σ2 H2 => wipe σ2 vs = wipe σ vs ∧ cB K B W0 cnd σ2 H2 fun b H3 =>
        if b = true then cE K B W0 elt σ2 H3 fun y H4 => ∃ acc, H4 D0 = some (.lst acc) ∧ acc.length < sizeLine ∧ Nx (upd H4 D0 (.lst (acc ++ [y]))) else Nx H3) := by
  let Wt : Nat → Nat → Hp → Prop := fun i m H => ∃ r F S acc vacc, Wd.Ok K ⟨r, F, H⟩ S ∧ Step w0 ⟨r, F, H⟩ ∧ H D0 = some (.lst vacc) ∧ Reps K r F vacc acc ∧ F D0 = none ∧ D0 ∉ r ∧ PoE K W w0 σ ((lcL s tg (wipeE Γ vs) cnd elt m i acc S).bind fun xs S2 => mkL f xs S2) Q
  refine ⟨Wt, ⟨lenS s S, ?_⟩, fun i m H hw => ?_⟩
  · obtain ⟨o1, t1⟩ := o0.side (u := .lst []) (.inl hD)
    exact ⟨w0.r, w0.F, S, [], [], o1, t1 hD, upd_same, .nil, o0.noF hD, o0.notin hD, q⟩
  · obtain ⟨r, F, S, acc, vacc, o, t, eD, ra, fD, nD, q⟩ := hw
    cases m with
    | zero => exact q.elim
    | succ m =>
      unfold lcL at q
      have hs' := hs.step t
      cases e1 : itS s i S with
      | none => rw [e1] at q; exact q.elim
      | some od =>
        rw [e1] at q
        cases od with
        | none =>
          exact .inl ⟨sr_stop o hs' e1, takeL (w := ⟨r, F, H⟩) o t hD nD fD eD ra q⟩
        | some d =>
          dsimp only at q
          obtain ⟨go, yl⟩ := sr_go o hs' e1
          cases e2 : tg d (wipeE Γ vs) with
          | none => rw [e2] at q; exact q.elim
          | some Γ1 =>
            rw [e2] at q
            dsimp only at q
            refine .inr ⟨go, Wt (i + 1) m, fun H' h => ⟨m, Nat.lt_succ_self _, h⟩, fun x H' hy => ?_⟩
            obtain ⟨F1, o1, t1, rx⟩ := yl x H' hy
            obtain ⟨eD1, nD1, fD1⟩ := t1.at_side (p := D0) eD nD fD
            refine hg (w := ⟨r, F1, H'⟩) o1 rx (wipe_ok kp ((g0.step t).step t1) vs) e2 fun σ2 g2 ew => ⟨ew, ?_⟩
            refine ⟨r, F1, Γ1, S, o1, g2, ?_⟩
            cases e3 : cnd Γ1 S with
            | bad => rw [e3] at q; exact q.elim
            | exc _ _ _ => rw [e3] at q; exact q.elim
            | ok b S1 =>
              intro w2 t2 o2
              obtain ⟨eD2, nD2, fD2⟩ := t2.at_side (p := D0) eD1 nD1 fD1
              cases b with
              | false =>
                rw [if_neg Bool.false_ne_true]
                rw [e3] at q
                exact ⟨w2.r, w2.F, S1, acc, vacc, o2, (t.trans t1).trans t2, eD2, ra.up (t1.trans t2).pre (t1.trans t2).sub, fD2, nD2, q⟩
              | true =>
                rw [if_pos rfl]
                rw [e3] at q
                dsimp only at q
                refine ⟨w2.r, w2.F, Γ1, S1, o2, g2.step t2, ?_⟩
                cases e4 : elt Γ1 S1 with
                | bad => rw [e4] at q; exact q.elim
                | exc _ _ _ => rw [e4] at q; exact q.elim
                | ok y S2 =>
                  intro w3 v t3 o3 r3
                  obtain ⟨eD3, nD3, fD3⟩ := t3.at_side (p := D0) eD2 nD2 fD2
                  rw [e4] at q
                  dsimp only at q
                  split at q
                  · rename_i hz
                    have tt := (t1.trans t2).trans t3
                    have ra3 := ra.up tt.pre tt.sub
                    refine ⟨vacc, eD3, big_lt (by rw [ra.len]; exact hz), ?_⟩
                    obtain ⟨o4, _⟩ := o3.side (u := .lst (vacc ++ [v])) (.inr ⟨nD3, fD3⟩)
                    exact ⟨w3.r, w3.F, S2, acc ++ [y], vacc ++ [v], o4, (t.trans tt).sideBack hD nD3 (by rw [eD3]; exact lo_lst), upd_same, ra3.app (.cons r3 .nil), fD3, nD3, q⟩
                  · exact q.elim
section
variable {X : Cx} {B : Bs} {W : WX} {elt tg iter : Expr} {ifs : List Expr} {scope : Scope} {own : List (Str × Nat)} {pos spos : Pos} {src : Id'} {cnd : Bd} {me : Ed}
theorem PoI.ofBind {w : Wd} {σ : L2.St} {r : Res Sr} {f : Sr → Sto → Res D} {Q : VK} {Q' : It → Hp → Prop} {K : Kw} (h : PoE K W w σ (r.bind f) Q) (k : ∀ s S w' J, r = .ok s S → Step w w' → w'.Ok K S → SrOk K w' J s → PoE K W w' σ (f s S) Q → Q' J w'.H) : PoI K W w σ r Q' := by
  cases r with
  | ok d S => exact fun w2 J t o hs => k d S w2 J rfl t o hs (PoE.step t h)
  | exc c fs S => exact h
  | bad => exact h
theorem set_wipe {σ : L2.St} : ∀ {vs : List Nat} {i : Nat} {v : V}, i ∈ vs → wipe ((wipe σ vs).set i (some v)) vs = wipe σ vs := by
  have key : ∀ (vs : List Nat) (τ ρ : L2.St), τ.length = ρ.length → (∀ j, j ∉ vs → τ[j]? = ρ[j]?) → wipe τ vs = wipe ρ vs := by
    intro vs
    induction vs with
    | nil => intro τ ρ _ h; exact List.ext_getElem? fun j => h j (by simp)
    | cons a vs ih =>
      intro τ ρ hl h
      have hh : ∀ (τ : L2.St) (j : Nat), (wipe τ (a :: vs))[j]? = if j = a then (if a < τ.length then some none else none) else (wipe τ vs)[j]? := fun τ j => by
        show ((wipe τ vs).set a none)[j]? = _
        by_cases hj : j = a
        · subst hj
          rw [if_pos rfl]
          by_cases hlt : j < τ.length
          · rw [if_pos hlt, List.getElem?_set_self (by rw [wipe_length]; exact hlt)]
          · rw [if_neg hlt, List.getElem?_eq_none (by rw [List.length_set, wipe_length]; omega)]
        · rw [if_neg hj, List.getElem?_set_ne (Ne.symm hj)]
      refine List.ext_getElem? fun j => ?_
      rw [hh, hh, hl]
      by_cases hj : j = a
      · rw [if_pos hj, if_pos hj]
      · rw [if_neg hj, if_neg hj]
        have w1 : ∀ (us : List Nat) (τ : L2.St) (j : Nat), (wipe τ us)[j]? = if j ∈ us then (if j < τ.length then some none else none) else τ[j]? := by
          intro us
          induction us with
          | nil => intro τ j; simp [wipe]
          | cons b us ihu =>
            intro τ j
            show ((wipe τ us).set b none)[j]? = _
            by_cases hb : j = b
            · subst hb
              rw [if_pos (List.mem_cons_self ..)]
              by_cases hlt : j < τ.length
              · rw [if_pos hlt, List.getElem?_set_self (by rw [wipe_length]; exact hlt)]
              · rw [if_neg hlt, List.getElem?_eq_none (by rw [List.length_set, wipe_length]; omega)]
            · rw [List.getElem?_set_ne (Ne.symm hb), ihu]
              by_cases hm : j ∈ us
              · rw [if_pos hm, if_pos (List.mem_cons_of_mem _ hm)]
              · rw [if_neg hm, if_neg fun z => (List.mem_cons.mp z).elim hb hm]
        rw [w1, w1, hl]
        by_cases hm : j ∈ vs
        · rw [if_pos hm, if_pos hm]
        · rw [if_neg hm, if_neg hm]
          exact h j fun z => (List.mem_cons.mp z).elim hj hm
  have w1 : ∀ (us : List Nat) (τ : L2.St) (j : Nat), j ∉ us → (wipe τ us)[j]? = τ[j]? := by
    intro us
    induction us with
    | nil => intro τ j _; rfl
    | cons b us ihu =>
      intro τ j hj
      show ((wipe τ us).set b none)[j]? = _
      rw [List.getElem?_set_ne fun z => hj (by rw [z]; exact List.mem_cons_self ..)]
      exact ihu τ j fun z => hj (List.mem_cons_of_mem _ z)
  intro vs i v hi
  refine key vs _ _ (by rw [List.length_set, wipe_length]) fun j hj => ?_
  rw [List.getElem?_set_ne fun z => hj (by rw [← z]; exact hi)]
  exact w1 vs σ j hj
theorem gSeq_wipe {w : Wd} {K : Kw} {vs : List Nat} {σ : L2.St} {Q : L2.St → Hp → Prop} {Γ' : En} : ∀ {is : List Nat} {us : List V} {ds : List D} {σ1 : L2.St} {Γ : En}, (∀ i, Keeps B i) → (∀ i ∈ is, i ∈ vs) → wipe σ1 vs = wipe σ vs → EnOk K B w Γ σ1 → Reps K w.r w.F us ds → gNs is ds Γ = some Γ' →
    (∀ σ', EnOk K B w Γ' σ' → wipe σ' vs = wipe σ vs → Q σ' w.H) → gSeq is us σ1 w.H Q
  | [], [], [], σ1, Γ, _, _, ew, g, _, e, q => ⟨rfl, q σ1 (by cases e; exact g) ew⟩
  | [], _ :: _, _ :: _, _, _, _, _, _, _, _, e, _ => by cases e
  | i :: is, [], [], _, _, _, _, _, _, _, e, _ => by cases e
  | i :: is, v :: us, d :: ds, σ1, Γ, kp, hi, ew, g, .cons h hs, e, q => ⟨v, us, rfl, gSeq_wipe kp (fun j hj => hi j (List.mem_cons_of_mem _ hj)) (by
      have hm := hi i (List.mem_cons_self ..)
      have w1 : ∀ (us : List Nat) (τ : L2.St) (i : Nat) (v : V), i ∈ us → wipe (τ.set i (some v)) us = wipe τ us := by
        intro us
        induction us with
        | nil => intro τ i v h; cases h
        | cons b us ihu =>
          intro τ i v h
          show (wipe (τ.set i (some v)) us).set b none = (wipe τ us).set b none
          by_cases hb : i ∈ us
          · rw [ihu τ i v hb]
          · have hib : i = b := (List.mem_cons.mp h).resolve_right hb
            subst hib
            have w2 : ∀ (us : List Nat) (τ : L2.St), i ∉ us → wipe (τ.set i (some v)) us = (wipe τ us).set i (some v) := by
              intro us
              induction us with
              | nil => intro τ _; rfl
              | cons c us ihc =>
                intro τ hc
                show (wipe (τ.set i (some v)) us).set c none = ((wipe τ us).set c none).set i (some v)
                rw [ihc τ fun z => hc (List.mem_cons_of_mem _ z), List.set_comm]
                exact fun z => hc (by rw [z]; exact List.mem_cons_self ..)
            rw [w2 us τ hb, List.set_set]
      rw [w1 vs σ1 i v hm]
      exact ew) (g.set (kp i) h) hs e q⟩
/-- [elt for x in .. if ..], the target the names at is -/
theorem so_lcE {f : Bool} {g : TG} {tgd : Td} (kp : ∀ i, Keeps B i)
    (hg : ∀ {Γ : En} {σ : L2.St} {w : Wd} {S : Sto} {v : V} {d : D} {Γ' : En} {R : L2.St → Hp → Prop}, w.Ok X.kw S → Rep X.kw w.r w.F v d → EnOk X.kw B w (wipeE Γ (own.map (·.2))) (wipe σ (own.map (·.2))) → tgd d (wipeE Γ (own.map (·.2))) = some Γ' → (∀ σ', EnOk X.kw B w Γ' σ' → wipe σ' (own.map (·.2)) = wipe σ (own.map (·.2)) → R σ' w.H) → g v (wipe σ (own.map (·.2))) w.H R)
    {σ : L2.St} {H : Hp} {Q : VK} (h : cE X.kw B W (mLc f (own.map (·.2)) src tgd cnd me) σ H Q) : tLc (cI X.kw B W src) g (cB X.kw B W0 cnd) (cE X.kw B W0 me) (own.map (·.2)) σ H Q := by
  obtain ⟨r0, F0, Γ, S, o, gg, q⟩ := h
  refine ⟨r0, F0, Γ, S, o, gg, PoI.ofBind q fun s S1 w1 J _ t1 o1 hs q1 D0 hD => ?_⟩
  exact so_lc (hg := fun a b c d e => hg a b c d e) kp o1 (gg.step t1) hs q1 D0 hD
theorem tr_lc (f : Bool) (i : Nat) (own : List (Str × Nat)) (kp : ∀ i, Keeps B i) (hc : X.calm = true) (hN : X.N.Nodup) (hi : TrI X B W tg iter src) (ok : BlkOk X.N X.env.scope scope own) (hm : i ∈ own.map (·.2))
    (hg : ∀ (s : Shared) (H : Hp) (C : Addr) (cl : List (Str × Addr)) (fp : List Addr), PG (X.blk s H scope (compEnvC scope cl C X.env) fp) tg (gName i))
    (ht : ∀ (s : Shared) (H : Hp) (C : Addr) (cl : List (Str × Addr)) (fp : List Addr), TrT (X.blk s H scope (compEnvC scope cl C X.env) fp) B ifs cnd)
    (he : ∀ (s : Shared) (H : Hp) (C : Addr) (cl : List (Str × Addr)) (fp : List Addr), Tr (X.blk s H scope (compEnvC scope cl C X.env) fp) B W0 elt me) (hs : ∀ x, foldedSetIterable iter X.env x = pure x := by intro _; rfl) :
    Tr X B W (.ListComp elt [⟨tg, iter, ifs, 0⟩] scope pos) (mLc f (own.map (·.2)) src (gN i) cnd me) := by
  refine imE (pe_lc (tt := cB X.kw B W0 cnd) (te := cE X.kw B W0 me) hc hN hi ok hg ht he hs) fun σ H Q h => so_lcE kp (fun {Γ σ w S v d Γ' R} o r g e q => ?_) h
  cases e
  exact q _ (g.set (kp i) r) (set_wipe hm)
theorem tr_lcT (f : Bool) (is : List Nat) (own : List (Str × Nat)) (kp : ∀ i, Keeps B i) (hc : X.calm = true) (hN : X.N.Nodup) (hi : TrI X B W tg iter src) (ok : BlkOk X.N X.env.scope scope own) (hm : ∀ i ∈ is, i ∈ own.map (·.2))
    (hg : ∀ (s : Shared) (H : Hp) (C : Addr) (cl : List (Str × Addr)) (fp : List Addr), PG (X.blk s H scope (compEnvC scope cl C X.env) fp) tg (gTup X.kw is.length (gSeq is)))
    (ht : ∀ (s : Shared) (H : Hp) (C : Addr) (cl : List (Str × Addr)) (fp : List Addr), TrT (X.blk s H scope (compEnvC scope cl C X.env) fp) B ifs cnd)
    (he : ∀ (s : Shared) (H : Hp) (C : Addr) (cl : List (Str × Addr)) (fp : List Addr), Tr (X.blk s H scope (compEnvC scope cl C X.env) fp) B W0 elt me) (hs : ∀ x, foldedSetIterable iter X.env x = pure x := by intro _; rfl) :
    Tr X B W (.ListComp elt [⟨tg, iter, ifs, 0⟩] scope pos) (mLc f (own.map (·.2)) src (gT is) cnd me) := by
  refine imE (pe_lc (tt := cB X.kw B W0 cnd) (te := cE X.kw B W0 me) hc hN hi ok hg ht he hs) fun σ H Q h => so_lcE kp (fun {Γ σ w S v d Γ' R} o r g e q => ?_) h
  cases d with
  | tup xs =>
    have e : gNs is xs _ = some Γ' := e
    obtain ⟨a, vs, rfl, h1, h2⟩ := tup_at o r
    refine ⟨a, vs, rfl, h1, by rw [h2.len]; exact gNs_len e, gSeq_wipe kp hm ?_ g h2 e q⟩
    have w1 : ∀ (us : List Nat) (τ : L2.St), wipe (wipe τ us) us = wipe τ us := by
      intro us
      induction us with
      | nil => intro τ; rfl
      | cons b us ihu =>
        intro τ
        have hcom : ∀ (us : List Nat) (τ : L2.St) (b : Nat), wipe (τ.set b none) us = (wipe τ us).set b none := by
          intro us
          induction us with
          | nil => intro τ b; rfl
          | cons c us ihc =>
            intro τ b
            show (wipe (τ.set b none) us).set c none = ((wipe τ us).set c none).set b none
            rw [ihc τ b]
            by_cases hbc : b = c
            · rw [hbc]
            · rw [List.set_comm _ _ hbc]
        show (wipe ((wipe τ us).set b none) us).set b none = (wipe τ us).set b none
        rw [hcom, ihu, List.set_set]
    exact w1 _ _
  | _ => cases e
end
end Fx
end

section
set_option Elab.async false
set_option linter.all false
set_option maxRecDepth 100000
set_option maxHeartbeats 2000000
namespace Fx
open PySem PySem.Spec PyProof.Rows L2
variable [Nam]

/-! ## statements -/
def Res.toS {α : Type} (r : Res α) (Γ : En) (k : α → Sto → SR) : SR := match r with
  | .ok a S => k a S
  | .exc c fs S => .ex c fs Γ S
  | .bad => .bad
@[simp] theorem Res.toS_ok {α : Type} (a : α) (S : Sto) (Γ : En) (k : α → Sto → SR) : (Res.ok a S).toS Γ k = k a S := rfl
@[simp] theorem Res.toS_exc {α : Type} (c : Addr) (fs : List (Str × D)) (S : Sto) (Γ : En) (k : α → Sto → SR) : (Res.exc c fs S : Res α).toS Γ k = .ex c fs Γ S := rfl
@[simp] theorem Res.toS_bad {α : Type} (Γ : En) (k : α → Sto → SR) : (Res.bad : Res α).toS Γ k = .bad := rfl
section
variable {K : Kw} {B : Bs} {W : WX} {w w' : Wd} {σ : L2.St} {Γ : En} {S : Sto} {E : Ends}
theorem PoS.bindE {r : Res D} {k : D → Sto → SR} {Q : VK} (g : EnOk K B w Γ σ) (h : PoS K B W w (r.toS Γ k) E) (f : ∀ d S w' v, r = .ok d S → Step w w' → w'.Ok K S → Rep K w'.r w'.F v d → PoS K B W w' (k d S) E → Q v w'.H) : PoE K W w σ r Q := by
  cases r with
  | ok d S => exact fun w2 v t o r => f d S w2 v rfl t o r (PoS.step t h)
  | exc c fs S => exact fun w2 dx vs t o e r => h w2 σ dx vs t o (g.step t) e r
  | bad => exact h
theorem PoS.bindB {r : Res Bool} {k : Bool → Sto → SR} {Q : Bool → Hp → Prop} (g : EnOk K B w Γ σ) (h : PoS K B W w (r.toS Γ k) E) (f : ∀ d S w', r = .ok d S → Step w w' → w'.Ok K S → PoS K B W w' (k d S) E → Q d w'.H) : PoB K W w σ r Q := by
  cases r with
  | ok d S => exact fun w2 t o => f d S w2 rfl t o (PoS.step t h)
  | exc c fs S => exact fun w2 dx vs t o e r => h w2 σ dx vs t o (g.step t) e r
  | bad => exact h
theorem PoS.bindA {r : Res (List D)} {k : List D → Sto → SR} {Q : List V → Hp → Prop} (g : EnOk K B w Γ σ) (h : PoS K B W w (r.toS Γ k) E) (f : ∀ d S w' v, r = .ok d S → Step w w' → w'.Ok K S → Reps K w'.r w'.F v d → PoS K B W w' (k d S) E → Q v w'.H) : PoA K W w σ r Q := by
  cases r with
  | ok d S => exact fun w2 v t o r => f d S w2 v rfl t o r (PoS.step t h)
  | exc c fs S => exact fun w2 dx vs t o e r => h w2 σ dx vs t o (g.step t) e r
  | bad => exact h
theorem PoS.bindI {r : Res Sr} {k : Sr → Sto → SR} {Q : It → Hp → Prop} (g : EnOk K B w Γ σ) (h : PoS K B W w (r.toS Γ k) E) (f : ∀ s S w' J, r = .ok s S → Step w w' → w'.Ok K S → SrOk K w' J s → PoS K B W w' (k s S) E → Q J w'.H) : PoI K W w σ r Q := by
  cases r with
  | ok d S => exact fun w2 J t o hs => f d S w2 J rfl t o hs (PoS.step t h)
  | exc c fs S => exact fun w2 dx vs t o e r => h w2 σ dx vs t o (g.step t) e r
  | bad => exact h
theorem PoS.nxt {Γ : En} {S : Sto} (h : PoS K B W w (.nx Γ S) E) (o : w.Ok K S) (g : EnOk K B w Γ σ) : E.nx σ w.H := h w σ (Step.refl _) o g
end
section
variable {X : Cx} {B : Bs} {W : WX} {a b c e o i tg : Expr} {es : List Expr} {st : Stmt} {sts ts us : List Stmt} {p pos pos' : Pos} {ma mb me : Ed} {mt : Bd} {mA : Ad} {m m1 m2 : Sd}
def sPass : Sd := fun Γ S => .nx Γ S
def sBreak : Sd := fun Γ S => .bk Γ S
def sCont : Sd := fun Γ S => .ct Γ S
def sSeq (a b : Sd) : Sd := fun Γ S => match a Γ S with
  | .nx Γ' S' => b Γ' S'
  | r => r
def sDrop (a : Ed) : Sd := fun Γ S => (a Γ S).toS Γ fun _ S' => .nx Γ S'
def sRet (a : Ed) : Sd := fun Γ S => (a Γ S).toS Γ fun d S' => .rt d S'
def sRetN : Sd := fun _ S => .rt .non S
def sIf (t : Bd) (a b : Sd) : Sd := fun Γ S => (t Γ S).toS Γ fun x S' => if x = true then a Γ S' else b Γ S'
def sAsg (t : Td) (a : Ed) : Sd := fun Γ S => (a Γ S).toS Γ fun d S' => match t d Γ with
  | some Γ' => .nx Γ' S'
  | none => .bad
theorem ts_pass : TrS X B W (.Pass pos) sPass := imS ps_pass fun E σ H ⟨r, F, Γ, S, o, g, q⟩ => q.nxt o g
theorem ts_break : TrS X B W (.Break pos) sBreak := imS ps_break fun E σ H ⟨r, F, Γ, S, o, g, q⟩ => q _ σ (Step.refl _) o g
theorem ts_cont : TrS X B W (.Continue pos) sCont := imS ps_continue fun E σ H ⟨r, F, Γ, S, o, g, q⟩ => q _ σ (Step.refl _) o g
theorem ts_doc {x j pos'} : TrS X B W (.Expr (.Constant (.str x) j pos) pos') sPass := imS ps_doc fun E σ H ⟨r, F, Γ, S, o, g, q⟩ => q.nxt o g
theorem tss_nil : TrSs X B W [] sPass := imSs pss_nil fun E σ H ⟨r, F, Γ, S, o, g, q⟩ => q.nxt o g
theorem tss_one (h : TrS X B W st m) : TrSs X B W [st] m := pss_one h
theorem tss_cons (h1 : TrS X B W st m1) (h2 : TrSs X B W sts m2) : TrSs X B W (st :: sts) (sSeq m1 m2) := by
  refine imSs (pss_cons h1 h2) fun E σ H h => ?_
  obtain ⟨r, F, Γ, S, o, g, q⟩ := h
  refine ⟨r, F, Γ, S, o, g, ?_⟩
  unfold sSeq at q
  cases e : m1 Γ S with
  | nx Γ' S' =>
    rw [e] at q
    exact fun w' σ' t o' g' => ⟨w'.r, w'.F, Γ', S', o', g', PoS.step t q⟩
  | rt d S' => rw [e] at q; exact q
  | bk Γ' S' => rw [e] at q; exact q
  | ct Γ' S' => rw [e] at q; exact q
  | ex c fs Γ' S' => rw [e] at q; exact q
  | bad => rw [e] at q; exact q
theorem ts_drop (h : Tr X B W e me) (hs : swapsWith e none pos.line X.env = pure false := by rfl) : TrS X B W (.Expr e pos) (sDrop me) := by
  refine imS (ps_expr h hs) fun E σ H h => ?_
  obtain ⟨r, F, Γ, S, o, g, q⟩ := h
  exact ⟨r, F, Γ, S, o, g, PoS.bindE g q fun d S1 w1 v _ t1 o1 rp1 q1 => q1.nxt o1 (g.step t1)⟩
theorem ts_ret (h : Tr X B W e me) : TrS X B W (.Return (some e) pos) (sRet me) := by
  refine imS (ps_ret h) fun E σ H h => ?_
  obtain ⟨r, F, Γ, S, o, g, q⟩ := h
  exact ⟨r, F, Γ, S, o, g, PoS.bindE g q fun d S1 w1 v _ t1 o1 rp1 q1 => q1 _ v (Step.refl _) o1 rp1⟩
theorem ts_retN : TrS X B W (.Return none pos) sRetN := imS ps_retN fun E σ H ⟨r, F, Γ, S, o, g, q⟩ => q _ .non (Step.refl _) o .non
theorem ts_if (ht : TrB X B W a mt) (h1 : TrSs X B W ts m1) (h2 : TrSs X B W us m2) : TrS X B W (.If a ts us pos) (sIf mt m1 m2) := by
  refine imS (ps_if ht h1 h2) fun E σ H h => ?_
  obtain ⟨r, F, Γ, S, o, g, q⟩ := h
  refine ⟨r, F, Γ, S, o, g, PoS.bindB g q fun d S1 w1 _ t1 o1 q1 => ?_⟩
  cases d with
  | true =>
    rw [if_pos rfl] at q1 ⊢
    exact ⟨w1.r, w1.F, Γ, S1, o1, g.step t1, q1⟩
  | false =>
    rw [if_neg Bool.false_ne_true] at q1 ⊢
    exact ⟨w1.r, w1.F, Γ, S1, o1, g.step t1, q1⟩
theorem ts_asg {td : Td} (h : Tr X B W e me) (hg : TrG X B tg td) (hps : ∀ te g, PE X e te → PG X tg g → PS X (.Assign [tg] e pos) (tAsg te g) := by exact fun _ _ h g => ps_asg h g) : TrS X B W (.Assign [tg] e pos) (sAsg td me) := by
  refine imS (hps _ _ h hg) fun E σ H h => ?_
  obtain ⟨r, F, Γ, S, o, g, q⟩ := h
  refine ⟨r, F, Γ, S, o, g, PoS.bindE g q fun d S1 w1 v _ t1 o1 rp1 q1 => ?_⟩
  cases e1 : td d Γ with
  | none => rw [e1] at q1; exact q1.elim
  | some Γ' =>
    rw [e1] at q1
    exact ⟨w1.r, w1.F, Γ, S1, d, Γ', o1, g.step t1, rp1, e1, fun σ' g' => q1.nxt o1 g'⟩
theorem ts_set (i : Nat) {x : Str} (nd : X.N.Nodup) (kp : Keeps B i) (h : Tr X B W e me) (hi : X.N[i]? = some x := by rfl) (hx : Loc X.env.scope x := by first | exact Or.inl rfl | exact Or.inr rfl) (hf : X.fn x = true ∨ X.env.scope.names.lookup x = some .local := by first | exact .inl rfl | exact .inr rfl)
    (hps : ∀ te g, PE X e te → PG X (.Name x pos') g → PS X (.Assign [.Name x pos'] e pos) (tAsg te g) := by exact fun _ _ h g => ps_asg h g) : TrS X B W (.Assign [.Name x pos'] e pos) (sAsg (gN i) me) := ts_asg h (tg_name i nd kp hi hx hf) hps
/-- x = [..] on one line -/
theorem ts_setLc (f : Bool) (i j : Nat) {y : Str} {py spos : Pos} {elt iter : Expr} {ifs : List Expr} {scope : Scope} (own : List (Str × Nat)) {src : Id'} {cnd : Bd} (kp : ∀ i, Keeps B i) (hc : X.calm = true) (hN : X.N.Nodup) (hy : X.N[i]? = some y) (hyl : X.env.scope.names.lookup y = some .local)
    (hsw : swapsWith (.ListComp elt [⟨tg, iter, ifs, 0⟩] scope pos) (some (.Name y py)) spos.line X.env = pure true) (hi : TrI X B W tg iter src) (ok : BlkOk X.N X.env.scope scope own) (hm : j ∈ own.map (·.2))
    (hg : ∀ (s : Shared) (H : Hp) (C : Addr) (cl : List (Str × Addr)) (fp : List Addr), PG (X.blk s H scope (compEnvC scope cl C X.env) fp) tg (gName j))
    (ht : ∀ (s : Shared) (H : Hp) (C : Addr) (cl : List (Str × Addr)) (fp : List Addr), TrT (X.blk s H scope (compEnvC scope cl C X.env) fp) B ifs cnd)
    (he : ∀ (s : Shared) (H : Hp) (C : Addr) (cl : List (Str × Addr)) (fp : List Addr), Tr (X.blk s H scope (compEnvC scope cl C X.env) fp) B W0 elt me) (hs : ∀ x, foldedSetIterable iter X.env x = pure x := by intro _; rfl) :
    TrS X B W (.Assign [.Name y py] (.ListComp elt [⟨tg, iter, ifs, 0⟩] scope pos) spos) (sAsg (gN i) (mLc f (own.map (·.2)) src (gN j) cnd me)) := by
  refine imS (ps_setLc (tt := cB X.kw B W0 cnd) (te := cE X.kw B W0 me) hc hN hy hyl hsw hi ok hg ht he hs) fun E σ H h => ?_
  obtain ⟨r, F, Γ, S, o, g, q⟩ := h
  have h2 : cE X.kw B W (mLc f (own.map (·.2)) src (gN j) cnd me) σ H (fun x H1 => gName i x σ H1 E.nx) :=
    ⟨r, F, Γ, S, o, g, PoS.bindE g q fun d S1 w1 v _ t1 o1 rp1 q1 => q1.nxt o1 ((g.step t1).set (kp i) rp1)⟩
  refine so_lcE kp (fun {Γ σ w S v d Γ' R} o r g e q => ?_) h2
  cases e
  exact q _ (g.set (kp j) r) (set_wipe hm)
/-- a, b = e1, e2 -/
def sPar (i j : Nat) (a : Ad) : Sd := fun Γ S => (a Γ S).toS Γ fun ds S' => match ds with
  | [d, e] => .nx ((Γ.set i (some d)).set j (some e)) S'
  | _ => .bad
theorem ts_par (i j : Nat) {x y : Str} {px py pt : Pos} {kt k2 : Nat} {pt2 : Pos} (kp : ∀ i, Keeps B i) (h : TrA X B W [a, b] mA)
    (hp : ∀ ta, PA X [a, b] ta → PS X (.Assign [.Tuple [.Name x px, .Name y py] kt pt] (.Tuple [a, b] k2 pt2) pos) (tPar i j ta)) : TrS X B W (.Assign [.Tuple [.Name x px, .Name y py] kt pt] (.Tuple [a, b] k2 pt2) pos) (sPar i j mA) := by
  refine imS (hp _ h) fun E σ H h => ?_
  obtain ⟨r, F, Γ, S, o, g, q⟩ := h
  refine ⟨r, F, Γ, S, o, g, PoS.bindA g q fun d S1 w1 v _ t1 o1 rp1 q1 => ?_⟩
  cases rp1 with
  | nil => exact q1.elim
  | cons r1 rs =>
    cases rs with
    | nil => exact q1.elim
    | cons r2 rs =>
      cases rs with
      | cons _ _ => exact q1.elim
      | nil => exact ⟨_, _, rfl, q1.nxt o1 (((g.step t1).set (kp i) r1).set (kp j) r2)⟩
/-- o.f = e -/
def sFldA (G : Addr → Bool) (f : Str) (o e : Ed) : Sd := fun Γ S => (e Γ S).toS Γ fun y S1 => (o Γ S1).toS Γ fun x S2 => match x with
  | .ref n => match S2[n]? with
    | some (.ins C fs) => if G C = true ∧ fs.length < 1000 then .nx Γ (S2.set n (.ins C (putD f y fs))) else .bad
    | _ => .bad
  | _ => .bad
theorem ts_fld {G : Addr → Bool} {f : Str} (hG : Plain X.kw G f) (ho : Tr X B W o ma) (he : Tr X B W e me) (hs : swapsWith e (some (.Attribute o f pos')) pos.line X.env = pure false := by rfl) : TrS X B W (.Assign [.Attribute o f pos'] e pos) (sFldA G f ma me) := by
  refine imS (ps_fld ho he hs) fun E σ H h => ?_
  obtain ⟨r, F, Γ, S, o, g, q⟩ := h
  refine ⟨r, F, Γ, S, o, g, PoS.bindE g q fun y S1 w1 v _ t1 o1 rp1 q1 => ?_⟩
  refine ⟨w1.r, w1.F, Γ, S1, o1, g.step t1, PoS.bindE (g.step t1) q1 fun x S2 w2 u _ t2 o2 rp2 q2 => ?_⟩
  cases rp2 with
  | @ref p n hp =>
    dsimp only at q2
    cases e1 : S2[n]? with
    | none => rw [e1] at q2; exact q2.elim
    | some ob =>
      rw [e1] at q2
      cases ob with
      | ins C fs =>
        dsimp only at q2
        split at q2
        · rename_i hC
          obtain ⟨dx, vs, h1, h2⟩ := o2.obj n _ p e1 hp
          obtain ⟨c1, c2⟩ := hG C hC.1
          refine ⟨p, C, dx, vs, rfl, h1, c1, c2, by rw [h2.len]; exact hC.2, ?_⟩
          obtain ⟨o3, t3⟩ := o2.put (u := .ins C dx (putF f v vs)) (x := .ins C (putD f y fs)) e1 (fun z => nomatch z) (fun l z => nomatch z) hp ⟨dx, _, upd_same, h2.put (rp1.up t2.pre t2.sub)⟩
          exact q2 _ σ t3 o3 (((g.step t1).step t2).step t3)
        · exact q2.elim
      | _ => exact q2.elim
  | _ => exact q2.elim
/-- o.f += e, ints -/
def sFldG (G : Addr → Bool) (f : Str) (h : Int → Int → Int) (o e : Ed) : Sd := fun Γ S => (o Γ S).toS Γ fun x S1 => match x with
  | .ref n => match S1[n]? with
    | some (.ins C fs) => if G C = true then match fs.lookup f with
        | some (.int i) => (e Γ S1).toS Γ fun z S3 => match z with
          | .int j => match S3[n]? with
            | some (.ins C' fs') => if C' = C ∧ fs'.length < 1000 then .nx Γ (S3.set n (.ins C (putD f (.int (h i j)) fs'))) else .bad
            | _ => .bad
          | _ => .bad
        | _ => .bad
      else .bad
    | _ => .bad
  | _ => .bad
theorem ts_faug {op : Operator} {hh : Int → Int → Int} {G : Addr → Bool} {f : Str} {tpos : Pos} (hop : InOp X op (fun x y H Q => ∃ i j, x = .int i ∧ y = .int j ∧ Q (.int (hh i j)) H)) (hG : Plain X.kw G f) (ho : Tr X B W o ma) (he : Tr X B W e me) : TrS X B W (.AugAssign (.Attribute o f tpos) op e pos) (sFldG G f hh ma me) := by
  refine imS (ps_fldaug ho he hop) fun E σ H h => ?_
  obtain ⟨r, F, Γ, S, o, g, q⟩ := h
  refine ⟨r, F, Γ, S, o, g, PoS.bindE g q fun x S1 w1 v _ t1 o1 rp1 q1 => ?_⟩
  cases rp1 with
  | @ref p n hp =>
    dsimp only at q1
    cases e1 : S1[n]? with
    | none => rw [e1] at q1; exact q1.elim
    | some ob =>
      rw [e1] at q1
      cases ob with
      | ins C fs =>
        dsimp only at q1
        split at q1
        · rename_i hC
          cases e2 : fs.lookup f with
          | none => rw [e2] at q1; exact q1.elim
          | some d =>
            rw [e2] at q1
            cases d with
            | int i =>
              dsimp only at q1
              obtain ⟨dx, vs, h1, h2⟩ := o1.obj n _ p e1 hp
              obtain ⟨v1, h3, h4⟩ := h2.look e2
              obtain ⟨c1, c2⟩ := hG C hC
              refine ⟨p, C, dx, vs, v1, rfl, h1, c1, c2, h3, ?_⟩
              cases h4
              refine ⟨w1.r, w1.F, Γ, S1, o1, g.step t1, PoS.bindE (g.step t1) q1 fun z S3 w3 u _ t3 o3 rp3 q3 => ?_⟩
              have hp3 := pre_get t3.pre hp
              cases rp3 with
              | int j =>
                dsimp only at q3
                cases e5 : S3[n]? with
                | none => rw [e5] at q3; exact q3.elim
                | some ob3 =>
                  rw [e5] at q3
                  cases ob3 with
                  | ins C3 fs3 =>
                    dsimp only at q3
                    split at q3
                    · rename_i hC3
                      obtain ⟨dx3, vs3, h13, h23⟩ := o3.obj n _ p e5 hp3
                      obtain ⟨e6, e7⟩ := hC3
                      subst e6
                      refine ⟨i, j, rfl, rfl, dx3, vs3, h13, by rw [h23.len]; exact e7, ?_⟩
                      obtain ⟨o4, t4⟩ := o3.put (u := .ins C3 dx3 (putF f (.int (hh i j)) vs3)) (x := .ins C3 (putD f (.int (hh i j)) fs3)) e5 (fun z => nomatch z) (fun l z => nomatch z) hp3 ⟨dx3, _, upd_same, h23.put (.int _)⟩
                      exact q3 _ σ t4 o4 (((g.step t1).step t3).step t4)
                    · exact q3.elim
                  | _ => exact q3.elim
              | _ => exact q3.elim
            | _ => exact q1.elim
        · exact q1.elim
      | _ => exact q1.elim
  | _ => exact q1.elim
/-- x += e, ints -/
def sAug (i : Nat) (h : Int → Int → Int) (e : Ed) : Sd := fun Γ S => match Γ[i]? with
  | some (some (.int a)) => (e Γ S).toS Γ fun z S1 => match z with
    | .int b => .nx (Γ.set i (some (.int (h a b)))) S1
    | _ => .bad
  | _ => .bad
theorem ts_aug (i : Nat) {x : Str} {op : Operator} {hh : Int → Int → Int} (nd : X.N.Nodup) (kp : Keeps B i) (he : Tr X B W e me) (ho : PIp X op (ipI hh)) (hi : X.N[i]? = some x := by rfl) (hx : Loc X.env.scope x := by first | exact Or.inl rfl | exact Or.inr rfl)
    (hps : ∀ te, PE X e te → PS X (.AugAssign (.Name x pos') op e pos) (tAug i te (ipI hh))) : TrS X B W (.AugAssign (.Name x pos') op e pos) (sAug i hh me) := by
  refine imS (hps _ he) fun E σ H h => ?_
  obtain ⟨r, F, Γ, S, o, g, q⟩ := h
  unfold sAug at q
  split at q
  · rename_i a ea
    obtain ⟨v, h1, h2⟩ := g.2.2 i _ ea
    cases h2
    refine ⟨_, h1, r, F, Γ, S, o, g, PoS.bindE g q fun z S1 w1 v _ t1 o1 rp1 q1 => ?_⟩
    cases rp1 with
    | int b => exact ⟨a, b, rfl, rfl, q1.nxt o1 ((g.step t1).set kp (.int _))⟩
    | _ => exact q1.elim
  · exact q.elim
/-- xs[i] = e, a list that may change -/
def sSub (e a b : Ed) : Sd := fun Γ S => (e Γ S).toS Γ fun v S1 => (a Γ S1).toS Γ fun x S2 => (b Γ S2).toS Γ fun y S3 => match x, y with
  | .ref n, .int k => match S3[n]? with
    | some (.lst xs) => match ixN xs.length k with
      | some j => .nx Γ (S3.set n (.lst (xs.set j v)))
      | none => .bad
    | _ => .bad
  | _, _ => .bad
theorem ts_sub (he : Tr X B W e me) (ha : Tr X B W a ma) (hb : Tr X B W b mb)
    (hps : ∀ te to ti, PE X e te → PE X a to → PE X b ti → PS X (.Assign [.Subscript a b pos'] e pos) (tAsg te (gSub to ti rSetL))) : TrS X B W (.Assign [.Subscript a b pos'] e pos) (sSub me ma mb) := by
  refine imS (hps _ _ _ he ha hb) fun E σ H h => ?_
  obtain ⟨r, F, Γ, S, o, g, q⟩ := h
  refine ⟨r, F, Γ, S, o, g, PoS.bindE g q fun v S1 w1 vv _ t1 o1 rp1 q1 => ?_⟩
  refine ⟨w1.r, w1.F, Γ, S1, o1, g.step t1, PoS.bindE (g.step t1) q1 fun x S2 w2 u _ t2 o2 rp2 q2 => ?_⟩
  refine ⟨w2.r, w2.F, Γ, S2, o2, (g.step t1).step t2, PoS.bindE ((g.step t1).step t2) q2 fun y S3 w3 u3 _ t3 o3 rp3 q3 => ?_⟩
  cases rp2 with
  | @ref p n hp =>
    cases rp3 with
    | int k =>
      dsimp only at q3
      cases e1 : S3[n]? with
      | none => rw [e1] at q3; exact q3.elim
      | some ob =>
        rw [e1] at q3
        cases ob with
        | lst xs =>
          dsimp only at q3
          cases e2 : ixN xs.length k with
          | none => rw [e2] at q3; exact q3.elim
          | some j =>
            rw [e2] at q3
            have hp3 := pre_get t3.pre hp
            obtain ⟨vs, h1, h2⟩ := o3.obj n _ p e1 hp3
            refine ⟨p, vs, k, j, rfl, rfl, h1, by rw [h2.len]; exact e2, ?_⟩
            obtain ⟨o4, t4⟩ := o3.put (u := .lst (vs.set j vv)) (x := .lst (xs.set j v)) e1 (fun z => nomatch z) (fun l z => nomatch z) hp3 ⟨_, upd_same, h2.set j (rp1.up (t2.trans t3).pre (t2.trans t3).sub)⟩
            exact q3 _ σ t4 o4 ((((g.step t1).step t2).step t3).step t4)
        | _ => exact q3.elim
    | _ => exact q3.elim
  | _ => cases rp3 <;> exact q3.elim

/-! ## loops -/
def whL (c : Bd) (b : Sd) : Nat → En → Sto → SR
  | 0, _, _ => .bad
  | n + 1, Γ, S => (c Γ S).toS Γ fun t S1 => if t = true then match b Γ S1 with
      | .nx Γ2 S2 => whL c b n Γ2 S2
      | .ct Γ2 S2 => whL c b n Γ2 S2
      | .bk Γ2 S2 => .nx Γ2 S2
      | r => r
    else .nx Γ S1
def sWhile (n : Nat) (c : Bd) (b : Sd) : Sd := whL c b n
theorem ts_while (n : Nat) (hp : PassesOwn (model X.prog X.w) X.A X.env X.xe) (hc : TrB X B W a mt) (hb : TrSs X B W sts m) : TrS X B W (.While a sts [] pos) (sWhile n mt m) := by
  refine imS (ps_while hp hc hb) fun E σ H h => ?_
  refine ⟨fun n σ H => ∃ r F Γ S, Wd.Ok X.kw ⟨r, F, H⟩ S ∧ EnOk X.kw B ⟨r, F, H⟩ Γ σ ∧ PoS X.kw B W ⟨r, F, H⟩ (whL mt m n Γ S) E, ⟨n, h⟩, fun n σ H h => ?_⟩
  obtain ⟨r, F, Γ, S, o, g, q⟩ := h
  cases n with
  | zero => exact q.elim
  | succ n =>
    refine ⟨r, F, Γ, S, o, g, PoS.bindB g q fun t S1 w1 _ t1 o1 q1 => ?_⟩
    cases t with
    | false =>
      rw [if_neg Bool.false_ne_true] at q1 ⊢
      exact q1.nxt o1 (g.step t1)
    | true =>
      rw [if_pos rfl] at q1 ⊢
      refine ⟨_, fun σ' H' h' => ⟨n, Nat.lt_succ_self _, h'⟩, w1.r, w1.F, Γ, S1, o1, g.step t1, ?_⟩
      cases e : m Γ S1 with
      | nx Γ2 S2 => rw [e] at q1; exact fun w2 σ2 t2 o2 g2 => ⟨w2.r, w2.F, Γ2, S2, o2, g2, PoS.step t2 q1⟩
      | ct Γ2 S2 => rw [e] at q1; exact fun w2 σ2 t2 o2 g2 => ⟨w2.r, w2.F, Γ2, S2, o2, g2, PoS.step t2 q1⟩
      | bk Γ2 S2 => rw [e] at q1; exact q1
      | rt d S2 => rw [e] at q1; exact q1
      | ex c fs Γ2 S2 => rw [e] at q1; exact q1
      | bad => rw [e] at q1; exact q1
def lpF (s : Sr) (tg : Td) (b : Sd) : Nat → Nat → En → Sto → SR
  | 0, _, _, _ => .bad
  | n + 1, i, Γ, S => match itS s i S with
    | none => .bad
    | some none => .nx Γ S
    | some (some d) => match tg d Γ with
      | none => .bad
      | some Γ1 => match b Γ1 S with
        | .nx Γ2 S2 => lpF s tg b n (i + 1) Γ2 S2
        | .ct Γ2 S2 => lpF s tg b n (i + 1) Γ2 S2
        | .bk Γ2 S2 => .nx Γ2 S2
        | r => r
def sFor (src : Id') (tg : Td) (b : Sd) : Sd := fun Γ S => (src Γ S).toS Γ fun s S1 => lpF s tg b (lenS s S1) 0 Γ S1
theorem ts_for {iter : Expr} {src : Id'} {td : Td} (hp : PassesOwn (model X.prog X.w) X.A X.env X.xe) (hi : TrI X B W tg iter src) (hg : TrG X B tg td) (hb : TrSs X B W sts m) (hc : X.calm = true := by rfl)
    (hs : ∀ x, foldedSetIterable iter X.env x = pure x := by intro _; rfl) : TrS X B W (.For tg iter sts [] pos) (sFor src td m) := by
  refine imS (ps_for hp hc hi hg hb hs) fun E σ H h => ?_
  obtain ⟨r, F, Γ, S, o, g, q⟩ := h
  refine ⟨r, F, Γ, S, o, g, PoS.bindI g q fun s S1 w1 J _ t1 o1 hs q1 => ?_⟩
  refine ⟨fun i n σ H => ∃ r F Γ S, Wd.Ok X.kw ⟨r, F, H⟩ S ∧ EnOk X.kw B ⟨r, F, H⟩ Γ σ ∧ SrOk X.kw ⟨r, F, H⟩ J s ∧ PoS X.kw B W ⟨r, F, H⟩ (lpF s td m n i Γ S) E, ⟨lenS s S1, w1.r, w1.F, Γ, S1, o1, g.step t1, hs, q1⟩, fun i n σ H h => ?_⟩
  obtain ⟨r, F, Γ, S, o, g, hs, q⟩ := h
  cases n with
  | zero => exact q.elim
  | succ n =>
    unfold lpF at q
    cases e1 : itS s i S with
    | none => rw [e1] at q; exact q.elim
    | some od =>
      rw [e1] at q
      cases od with
      | none => exact .inl ⟨sr_stop o hs e1, q.nxt o g⟩
      | some d =>
        dsimp only at q
        obtain ⟨go, yl⟩ := sr_go o hs e1
        cases e2 : td d Γ with
        | none => rw [e2] at q; exact q.elim
        | some Γ1 =>
          rw [e2] at q
          dsimp only at q
          refine .inr ⟨go, _, fun σ' H' h' => ⟨n, Nat.lt_succ_self _, h'⟩, fun x H' hy => ?_⟩
          obtain ⟨F1, o1, t1, rx⟩ := yl x H' hy
          refine ⟨r, F1, Γ, S, d, Γ1, o1, g.step t1, rx, e2, fun σ' g' => ⟨r, F1, Γ1, S, o1, g', ?_⟩⟩
          have hs1 := hs.step t1
          cases e : m Γ1 S with
          | nx Γ2 S2 => rw [e] at q; exact fun w2 σ2 t2 o2 g2 => ⟨w2.r, w2.F, Γ2, S2, o2, g2, hs1.step t2, PoS.step (t1.trans t2) q⟩
          | ct Γ2 S2 => rw [e] at q; exact fun w2 σ2 t2 o2 g2 => ⟨w2.r, w2.F, Γ2, S2, o2, g2, hs1.step t2, PoS.step (t1.trans t2) q⟩
          | bk Γ2 S2 => rw [e] at q; exact PoS.step t1 q
          | rt d S2 => rw [e] at q; exact PoS.step t1 q
          | ex c fs Γ2 S2 => rw [e] at q; exact PoS.step t1 q
          | bad => rw [e] at q; exact q

/-! ## a def by its body -/
def enter (N : Nat) (ds : List D) : En := ds.map some ++ List.replicate (N - ds.length) none
def runF (N : Nat) (b : Sd) : Fn := fun ds S => match b (enter N ds) S with
  | .nx _ S' => .ok .non S'
  | .rt d S' => .ok d S'
  | .ex c fs _ S' => .exc c fs S'
  | _ => .bad
theorem reps_map {K : Kw} {r : List Addr} {F : Hp} : ∀ {vs : List V} {ds : List D} {i : Nat} {d : D}, Reps K r F vs ds → (ds.map some)[i]? = some (some d) → ∃ v, (vs.map some)[i]? = some (some v) ∧ Rep K r F v d
  | _, _, _, _, .nil, e => by simp at e
  | _, _, 0, d, .cons h _, e => by simp at e; subst e; exact ⟨_, rfl, h⟩
  | _, _, i + 1, d, .cons _ h, e => by
    obtain ⟨v, h1, h2⟩ := reps_map (i := i) h (by simpa using e)
    exact ⟨v, by simpa using h1, h2⟩
theorem keeps_true {w : Wd} (i : Nat) : Keeps ⟨w, fun _ => True⟩ i := fun _ _ _ => trivial
theorem enter_ok {K : Kw} {w : Wd} {N : List Str} {vs : List V} {ds : List D} (h : Reps K w.r w.F vs ds) : EnOk K ⟨w, fun _ => True⟩ w (enter N.length ds) (L2.start N vs) := by
  refine ⟨⟨Step.refl _, trivial⟩, ?_, fun i d e => ?_⟩
  · unfold enter L2.start
    rw [List.length_append, List.length_append, List.length_map, List.length_map, List.length_replicate, List.length_replicate, h.len]
  · unfold enter at e
    unfold L2.start
    by_cases hi : i < ds.length
    · rw [List.getElem?_append_left (by rw [List.length_map]; exact hi)] at e
      rw [List.getElem?_append_left (by rw [List.length_map, h.len]; exact hi)]
      exact reps_map h e
    · rw [List.getElem?_append_right (by rw [List.length_map]; omega), List.getElem?_replicate] at e
      split at e <;> cases e
section
variable {P : Program} {wd : World} {K : PySem.W.Frag} {mg : Str → Option Value} {base : Heap}
theorem spf_len {K : Kw} {n : Nat} {f : Fn} {vs : List V} {H : Hp} {Q : VK} {E : XK} (h : SpF K n f vs H Q E) : vs.length = n := by
  obtain ⟨r, F, S, ds, _, h1, h2, _⟩ := h
  rw [h1.len, h2]
theorem fn_ok {x qual : Str} {st : Stmt} {f : Addr} {fd : FuncData} {N ps : List Str} {k : Nat} {b : Sd} (F : Fun K x qual st f fd) (S : FnScope N ps (defScope st))
    (h : ∀ (cdv : Value) (A : Around) (outer : List Env) (s : Shared) (H : Hp) (E : XK) (B : Bs), (∀ i, Keeps B i) → Room k (A.deeper (envOfC qual (defScope st) s.heap.objs.size f cdv)) →
      Takes (cxOf (L2.CX P wd) P wd K mg base N qual (defScope st) f cdv A outer s H E) (WE0 E) → TrSs (cxOf (L2.CX P wd) P wd K mg base N qual (defScope st) f cdv A outer s H E) B (WE0 E) (defBody st) b) :
    FnOk P wd K mg base (L2.CX P wd) (k + 1) f fd ps (SpF ⟨K, wd⟩ ps.length (runF N.length b)) := by
  refine F.okX S (fun vs H Q E h => spf_len h) fun cdv A outer s H vs Q E hr hsp => ?_
  obtain ⟨r, F0, S0, ds, o, rs, hl, q⟩ := hsp
  refine ⟨_, h cdv A outer s H E ⟨⟨r, F0, H⟩, fun _ => True⟩ keeps_true hr (takes_of rfl rfl rfl rfl), r, F0, enter N.length ds, S0, o, enter_ok rs, ?_⟩
  unfold runF at q
  cases e : b (enter N.length ds) S0 with
  | nx Γ' S' => rw [e] at q; exact fun w' σ' t o' g' => q w' .non t o' .non
  | rt d S' => rw [e] at q; exact q
  | bk Γ' S' => rw [e] at q; exact q.elim
  | ct Γ' S' => rw [e] at q; exact q.elim
  | ex c fs Γ' S' => rw [e] at q; exact fun w' σ' dx vs t o' g' e' r' => q w' dx vs t o' e' r'
  | bad => rw [e] at q; exact q.elim
/-- nothing is asked of it -/
theorem fn_bad {f : Addr} {fd : FuncData} {ps : List Str} : FnOk P wd K mg base (L2.CX P wd) 0 f fd ps (SpF ⟨K, wd⟩ ps.length fun _ _ => .bad) :=
  ⟨fun vs H Q E h => spf_len h, fun A outer s H args us vs Q E _ _ _ _ h => by
    obtain ⟨_, _, _, _, _, _, _, q⟩ := h
    exact q.elim⟩
end
end
end Fx
end

section
set_option Elab.async false
set_option linter.all false
set_option maxRecDepth 100000
set_option maxHeartbeats 2000000
namespace Fx
open PySem PySem.Spec PyProof.Rows L2
variable [Nam]

/-! ## try .. except X as n .. except Y as m .. (names or none) -/
abbrev HdT := Value × Option Nat × (Addr → Value → Option Addr → TS)
def endAt (i : Option Nat) (E : Ends) : Ends := match i with
  | none => E
  | some i => { nx := fun σ' H' => E.nx (σ'.set i none) H', rt := E.rt, bk := fun σ' H' => E.bk (σ'.set i none) H', ct := fun σ' H' => E.ct (σ'.set i none) H' }
def slotAt (i : Option Nat) (a : Addr) (σ : L2.St) : L2.St := match i with
  | none => σ
  | some i => σ.set i (some (.ref a))
def wManyA (K : Kw) (Wout : WX) (E : Ends) : List HdT → WX
  | [] => Wout
  | (c, i, ts) :: r => fun cls d σ H => ∃ b, PySem.W.exmOne K cls c = some b ∧ (b = true → ∀ a, H a = none → ts a cls d (endAt i E) (slotAt i a σ) H) ∧ (b = false → wManyA K Wout E r cls d σ H)
inductive HdsA (X : Cx) : List ExceptHandler → List HdT → Prop
  | nil : HdsA X [] []
  | cons {x : Str} {c : Value} {ts : Addr → Value → Option Addr → TS} {b₀ : Stmt} {suite : List Stmt} {np pos' : Pos} {hds : List ExceptHandler} {l : List HdT} (hc : Names X x c)
      (hsu : ∀ (a : Addr) (oe : Obj) (cls : Value) (d : Option Addr) (pn : List (Addr × Obj)), Zc cls d oe → (∃ vs, oe.data = .fields vs) → PSs (X.suite a ((a, oe) :: pn)) (b₀ :: suite) (ts a cls d)) (r : HdsA X hds l) :
      HdsA X (.ExceptHandler (some (.Name x np)) none (b₀ :: suite) pos' :: hds) ((c, none, ts) :: l)
  | consAs {x n : Str} {i : Nat} {c : Value} {ts : Addr → Value → Option Addr → TS} {b₀ : Stmt} {suite : List Stmt} {np pos' : Pos} {hds : List ExceptHandler} {l : List HdT} (hc : Names X x c) (hi : X.N[i]? = some n) (hln : X.env.kindOf n = some .local)
      (hsu : ∀ (a : Addr) (oe : Obj) (cls : Value) (d : Option Addr) (pn : List (Addr × Obj)), Zc cls d oe → (∃ vs, oe.data = .fields vs) → PSs (X.suite a ((a, oe) :: pn)) (b₀ :: suite) (ts a cls d)) (r : HdsA X hds l) :
      HdsA X (.ExceptHandler (some (.Name x np)) (some n) (b₀ :: suite) pos' :: hds) ((c, some i, ts) :: l)
section
variable {X : Cx} {body : List Stmt} {h₀ : ExceptHandler} {hds : List ExceptHandler} {l : List HdT} {pos : Pos} {tb : WX → TS} {Wout : WX}
theorem ps_try_manyA (hs : X.stack = X.env :: X.outer) (hf : X.env.frame = some X.env.locals) (hN : X.N.Nodup) (tk : Takes X Wout)
    (hb : ∀ (W : WX) (pn : List (Addr × Obj)) (xe : Value → Shared → Prop), Takes (X.tr pn xe) W → PassesOwn (model X.prog X.w) X.A X.env xe → PSs (X.tr pn xe) body (tb W))
    (hh : HdsA X (h₀ :: hds) l) : PS X (.Try body (h₀ :: hds) [] [] pos) (fun D σ H => tb (wManyA X.kw Wout D l) D σ H) := by
  refine ⟨fun pins s σ H D I h => ?_⟩
  have ok := I.ok
  have hfr : X.A.frames = some (X.env :: X.outer) := by rw [ok.frames, hs]
  refine wpAny_Try_except ?_
  refine wpAny_mono ((hb (wManyA X.kw Wout D l) (X.pn ++ pins) (fun e s₁ => wpAny (model X.prog X.w) X.A (noteFrame e X.env) (fun _ s₂ => wpAny (model X.prog X.w) X.A (setFlight e none) (fun _ s₃ =>
    wpAny (model X.prog X.w) X.A (handleBy e X.env (h₀ :: hds)) (SP X pins D) X.xe s₃) X.xe s₂) X.xe s₁) (fun u s' xx => ?_) PassesOwn.looking).run [] s σ H D (I.toTry _) h) (fun f s1 hsp => ?_) (fun e s1 he => he)
  · obtain ⟨a, B, sI, pins', σ', H', cls, d, rfl, J', nb, up, sky, na, os, ag, w⟩ := xx
    have J : Inv X pins σ' H' sI := J'.ofTry ok
    have sky' : Sky B (X.env :: X.outer) a (Zc cls d) X.env.locals s'.heap := by rw [← hs]; exact sky
    show wpAny (model X.prog X.w) X.A (noteFrame (.ref a) X.env) _ _ _
    refine Sky.land Zc.steady hfr hf sky' fun h3 fl3 up3 => ?_
    have J3 : Inv X pins σ' H' { s' with heap := h3 } := J.landed nb fl3.1 (up.trans up3) os ag
    obtain ⟨oe3, vs3, he3, hz3, hd3⟩ := fl3.there
    have notFr : ∀ {h : Heap} {o : Obj} {vs : Array Value}, h.FunFrames B (X.env :: X.outer) → h.get? a = some o → o.data = .fields vs → a ∉ frs (X.env :: X.outer) := fun {h o vs} ff e dd hm => by
      obtain ⟨_, o', e', hnf⟩ := ff.mem hm
      rw [e] at e'; cases e'
      exact hnf _ dd
    have nfr := notFr fl3.2.2.1 he3 hd3
    have nL : a ≠ X.env.locals := fun z => nfr (List.mem_filterMap.mpr ⟨X.env, List.mem_cons_self, by rw [hf, z]⟩)
    have nF : a ∉ X.fs := fun hm => by
      obtain ⟨e, he, q⟩ := List.mem_filterMap.mp hm
      exact nfr (List.mem_filterMap.mpr ⟨e, List.mem_cons_of_mem _ he, q⟩)
    have S3 := J3.suite he3 hd3 na nL nF
    have LT : PySem.W.Looks (model X.prog X.w) h3 (typeOf (.ref a)) cls := fun A Q E s k q => wpAny_typeOf_ref (k _ _ he3) (by rw [hz3.1]; exact q)
    have tst : ∀ {x : Str} {c : Value} {np : Pos} {Q : Value → Shared → Prop} {E : Value → Shared → Prop}, Names X x c → Q c { s' with heap := h3 } → wpAny (model X.prog X.w) (X.A.mark (some (.ref a))) (eval (.Name x np) X.env) Q E { s' with heap := h3 } := fun {x c np Q E} hc q => by
      obtain ⟨hg, hdbg, hm | ⟨hm, hv, hnn⟩⟩ := hc
      · exact ld_glob (X := X.suite a ((a, oe3) :: (X.pn ++ pins))) S3 hg hm q hdbg
      · exact ld_blt (X := X.suite a ((a, oe3) :: (X.pn ++ pins))) S3 hg hm hv q hnn hdbg
    have go : ∀ {hds' : List ExceptHandler} {l' : List HdT}, HdsA X hds' l' → wManyA X.kw Wout D l' cls d σ' H' →
        wpAny (model X.prog X.w) X.A (handleBy (.ref a) X.env hds') (SP X pins D) X.xe { s' with heap := h3 } := by
      intro hds' l' hk
      induction hk with
      | nil =>
        intro w
        refine wpAny_handleBy_nil ?_
        obtain ⟨k1, k2, k3, oe, vs, T, oT, ts', he, hz, hd, h1, hr⟩ := id fl3
        unfold PySem.passOn
        refine wpAny_bind (wpAny_field he hd h1 ?_)
        rw [if_neg (show ¬ ((Value.ref T == Value.none) = true) from by simp)]
        have fin : wpAny (model X.prog X.w) X.A (setFlight (.ref a) X.env.frame) (fun _ s4 => wpAny (model X.prog X.w) X.A (throw (.ref a) : Sem Flow) (SP X pins D) X.xe s4) X.xe { s' with heap := h3 } := by
          rw [hf]
          refine HandSPX.setFlight_upZ fl3 fun h4 hh4 up4 => wpAny_throw (tk _ _ ?_)
          exact ⟨a, B, sI, pins, σ', H', cls, d, rfl, J, nb, (up.trans up3).trans up4, .inr (.inr (by rw [hs]; exact hh4)), na, os, ag, w⟩
        first
          | exact wpAny_bind (wpAny_pure (wpAny_bind fin))
          | exact wpAny_bind fin
      | @cons x c ts b₀ suite np pos' hds2 l2 hc hsu r ih =>
        intro w
        obtain ⟨b, hb1, hyes, hno⟩ := w
        refine wpAny_handleBy_cons (codeAny_handlers_test ?_) (by intro q; cases q)
        have LM := PySem.W.exm_one (M := model X.prog X.w) (J3.kIn) LT hb1
        refine tst hc (LM.here ?_)
        cases b with
        | true =>
          refine codeAny_handlers_suite ?_
          refine HandSPX.lands_againZ fl3 fun h4 fl4 up4 => ?_
          have J4 : Inv X pins σ' H' { s' with heap := h4 } := J.landed nb fl4.1 ((up.trans up3).trans up4) os ag
          obtain ⟨oe4, vs4, he4, hz4, hd4⟩ := fl4.there
          have S4 := J4.suite he4 hd4 na nL nF
          refine wpAny_mono ((hsu a oe4 cls d (X.pn ++ pins) hz4 ⟨_, hd4⟩).run [] _ _ H' _ S4 (hyes rfl a na)) (fun f s6 hsp => ?_) (fun _ _ z => False.elim z)
          cases f with
          | next =>
            obtain ⟨σ6, H6, S6, q6⟩ := hsp
            exact ⟨_, _, S6.unsuite ok, q6⟩
          | brk =>
            obtain ⟨σ6, H6, S6, q6⟩ := hsp
            exact ⟨_, _, S6.unsuite ok, q6⟩
          | cont =>
            obtain ⟨σ6, H6, S6, q6⟩ := hsp
            exact ⟨_, _, S6.unsuite ok, q6⟩
          | ret u =>
            obtain ⟨v6, σ6, H6, S6, r6, q6⟩ := hsp
            exact ⟨_, _, _, S6.unsuite ok, r6, q6⟩
        | false =>
          show wpAny _ X.A (handleBy (.ref a) X.env hds2) _ _ _
          exact ih (hno rfl)
      | @consAs x n i c ts b₀ suite np pos' hds2 l2 hc hi hln hsu r ih =>
        intro w
        have hloc : Loc X.env.scope n := .inl hln
        obtain ⟨b, hb1, hyes, hno⟩ := w
        refine wpAny_handleBy_cons (codeAny_handlers_test ?_) (by intro q; cases q)
        have LM := PySem.W.exm_one (M := model X.prog X.w) (J3.kIn) LT hb1
        refine tst hc (LM.here ?_)
        cases b with
        | true =>
          refine codeAny_handlers_suite_as ?_
          refine HandSPX.lands_againZ fl3 fun h4 fl4 up4 => ?_
          have J4 : Inv X pins σ' H' { s' with heap := h4 } := J.landed nb fl4.1 ((up.trans up3).trans up4) os ag
          obtain ⟨oe4, vs4, he4, hz4, hd4⟩ := fl4.there
          have S4 := J4.suite he4 hd4 na nL nF
          refine store_ok (X := X.suite a ((a, oe4) :: (X.pn ++ pins))) (v := .ref a) S4 hN hi hloc rfl (fun s5 S5 => ?_) (.inr hln)
          refine wpAny_mono ((hsu a oe4 cls d (X.pn ++ pins) hz4 ⟨_, hd4⟩).run [] s5 _ H' _ S5 (hyes rfl a na)) (fun f s6 hsp => ?_) (fun _ _ z => False.elim z)
          have end_ : ∀ {σ6 : L2.St} {H6 : Hp} {Q : Shared → Prop}, Inv (X.suite a ((a, oe4) :: (X.pn ++ pins))) [] σ6 H6 s6 → (∀ s7, Inv X pins (σ6.set i none) H6 s7 → Q s7) →
              wpAny (model X.prog X.w) X.A (do bindName X.env n .none; unbindBehindTheSuite X.env n pos') (fun _ s7 => Q s7) X.xe s6 := fun {σ6 H6 Q} S6 hq => gone_ok (S6.unsuite ok) hN hi hln hq
          cases f with
          | next =>
            obtain ⟨σ6, H6, S6, q6⟩ := hsp
            exact end_ S6 fun s7 J7 => ⟨_, _, J7, q6⟩
          | brk =>
            obtain ⟨σ6, H6, S6, q6⟩ := hsp
            exact end_ S6 fun s7 J7 => ⟨_, _, J7, q6⟩
          | cont =>
            obtain ⟨σ6, H6, S6, q6⟩ := hsp
            exact end_ S6 fun s7 J7 => ⟨_, _, J7, q6⟩
          | ret u =>
            obtain ⟨v6, σ6, H6, S6, r6, q6⟩ := hsp
            exact end_ S6 fun s7 J7 => ⟨_, _, _, J7, r6, q6⟩
        | false =>
          show wpAny _ X.A (handleBy (.ref a) X.env hds2) _ _ _
          exact ih (hno rfl)
    exact go hh w
  · cases f with
    | next =>
      obtain ⟨σ', H', J', q⟩ := hsp
      exact wpAny_execs_nil ⟨σ', H', J'.ofTry ok, q⟩
    | brk =>
      obtain ⟨σ', H', J', q⟩ := hsp
      exact ⟨σ', H', J'.ofTry ok, q⟩
    | cont =>
      obtain ⟨σ', H', J', q⟩ := hsp
      exact ⟨σ', H', J'.ofTry ok, q⟩
    | ret u =>
      obtain ⟨v, σ', H', J', r, q⟩ := hsp
      exact ⟨v, σ', H', J'.ofTry ok, r, q⟩
end

/-! ## .. in functions -/
/-- a clause: does it take an exception of a class; its name's slot; the suite, by what the exception holds -/
abbrev Hd := (Addr → Option Bool) × Option Nat × (List (Str × D) → Sd)
def setNo (i : Option Nat) (Γ : En) : En := match i with
  | none => Γ
  | some i => Γ.set i none
def SR.behind (i : Option Nat) : SR → SR
  | .nx Γ S => .nx (setNo i Γ) S
  | .bk Γ S => .bk (setNo i Γ) S
  | .ct Γ S => .ct (setNo i Γ) S
  | .rt d S => .rt d S
  | _ => .bad
def okSlot (i : Option Nat) (Γ : En) : Bool := match i with
  | none => true
  | some i => decide (i < Γ.length)
def runH (c : Addr) (fs : List (Str × D)) (Γ : En) (S : Sto) : List Hd → SR
  | [] => .ex c fs Γ S
  | (mt, i, su) :: r => match mt c with
    | some true => if okSlot i Γ = true then (su fs (setNo i Γ) S).behind i else .bad
    | some false => runH c fs Γ S r
    | none => .bad
def sTry (b : Sd) (l : List Hd) : Sd := fun Γ S => match b Γ S with
  | .ex c fs Γ' S' => runH c fs Γ' S' l
  | r => r
/-- the base of a suite: the exception's dict stands at dd, the clause's slot holds it -/
structure InSu (K : Kw) (B : Bs) (B' : Bs) (i : Option Nat) (a : Addr) (dd : Addr) (fs : List (Str × D)) : Prop where
  up : Step B.w B'.w
  pr : ∀ σ, B'.P σ → B.P σ
  ex : ∃ vs, ExAt B'.w dd vs ∧ Fld K B'.w.r B'.w.F vs fs
  sl : ∀ j, i = some j → ∀ σ, B'.P σ → σ[j]? = some (some (.ref a))
inductive TrH (X : Cx) (B : Bs) : List ExceptHandler → List Hd → Prop
  | nil : TrH X B [] []
  | cons {x : Str} {cc : Value} {mt : Addr → Option Bool} {su : List (Str × D) → Sd} {b₀ : Stmt} {suite : List Stmt} {np pos' : Pos} {hds : List ExceptHandler} {l : List Hd} (hc : Names X x cc) (hm : ∀ c b, mt c = some b → PySem.W.exmOne X.kw (.ref c) cc = some b)
      (hsu : ∀ (a : Addr) (oe : Obj) (c dd : Addr) (fs : List (Str × D)) (pn : List (Addr × Obj)) (B' : Bs), mt c = some true → Zc (.ref c) (some dd) oe → (∃ vs, oe.data = .fields vs) → InSu X.kw B B' none a dd fs → TrSs (X.suite a ((a, oe) :: pn)) B' W0 (b₀ :: suite) (su fs)) (r : TrH X B hds l) :
      TrH X B (.ExceptHandler (some (.Name x np)) none (b₀ :: suite) pos' :: hds) ((mt, none, su) :: l)
  | consAs {x n : Str} {i : Nat} {cc : Value} {mt : Addr → Option Bool} {su : List (Str × D) → Sd} {b₀ : Stmt} {suite : List Stmt} {np pos' : Pos} {hds : List ExceptHandler} {l : List Hd} (hc : Names X x cc) (hm : ∀ c b, mt c = some b → PySem.W.exmOne X.kw (.ref c) cc = some b) (kp : Keeps B i)
      (hi : X.N[i]? = some n) (hln : X.env.kindOf n = some .local)
      (hsu : ∀ (a : Addr) (oe : Obj) (c dd : Addr) (fs : List (Str × D)) (pn : List (Addr × Obj)) (B' : Bs), mt c = some true → Zc (.ref c) (some dd) oe → (∃ vs, oe.data = .fields vs) → InSu X.kw B B' (some i) a dd fs → TrSs (X.suite a ((a, oe) :: pn)) B' W0 (b₀ :: suite) (su fs)) (r : TrH X B hds l) :
      TrH X B (.ExceptHandler (some (.Name x np)) (some n) (b₀ :: suite) pos' :: hds) ((mt, some i, su) :: l)
section
variable {X : Cx} {B : Bs}
theorem EnOk.base {K : Kw} {B B' : Bs} {w : Wd} {Γ : En} {σ : L2.St} {i : Option Nat} {a dd : Addr} {fs : List (Str × D)} (h : EnOk K B' w Γ σ) (z : InSu K B B' i a dd fs) : EnOk K B w Γ σ := ⟨⟨z.up.trans h.1.1, z.pr _ h.1.2⟩, h.2⟩
def tsOf (X : Cx) (B : Bs) (mt : Addr → Option Bool) (i : Option Nat) (su : List (Str × D) → Sd) (a : Addr) (cls : Value) (d : Option Addr) : TS := fun E σ H =>
  ∃ c dd fs B', cls = .ref c ∧ d = some dd ∧ mt c = some true ∧ InSu X.kw B B' i a dd fs ∧ cS X.kw B' W0 (su fs) E σ H
theorem endAt_rt (i : Option Nat) (E : Ends) : (endAt i E).rt = E.rt := by cases i <;> rfl
theorem suite_ok {K : Kw} {W : WX} {w : Wd} {r : SR} {E : Ends} {i : Option Nat} {B' : Bs} {a dd : Addr} {fs : List (Str × D)} (kp : ∀ j, i = some j → Keeps B j) (z : InSu K B B' i a dd fs) (q : PoS K B W w (r.behind i) E) : PoS K B' W0 w r (endAt i E) := by
  have bk : ∀ {w' : Wd} {Γ : En} {σ' : L2.St}, EnOk K B' w' Γ σ' → ∀ {R : L2.St → Hp → Prop}, (∀ σ2, EnOk K B w' (setNo i Γ) σ2 → R σ2 w'.H) → (match i with | none => R σ' w'.H | some i => R (σ'.set i none) w'.H) := fun {w' Γ σ'} g {R} k => by
    cases i with
    | none => exact k σ' (g.base z)
    | some i => exact k _ ((g.base z).forget (kp i rfl))
  cases r with
  | nx Γ S =>
    intro w' σ' t o g
    have h := bk g (R := E.nx) fun σ2 g2 => q w' σ2 t o g2
    cases i <;> exact h
  | bk Γ S =>
    intro w' σ' t o g
    have h := bk g (R := E.bk) fun σ2 g2 => q w' σ2 t o g2
    cases i <;> exact h
  | ct Γ S =>
    intro w' σ' t o g
    have h := bk g (R := E.ct) fun σ2 g2 => q w' σ2 t o g2
    cases i <;> exact h
  | rt d S =>
    intro w' v t o r
    rw [endAt_rt]
    exact q w' v t o r
  | ex c fs Γ S => exact q.elim
  | bad => exact q.elim
theorem TrH.to {hds : List ExceptHandler} {l : List Hd} (h : TrH X B hds l) : ∃ l' : List HdT, HdsA X hds l' ∧ ∀ (W : WX) (E : Ends) (w : Wd) (σ : L2.St) (c : Addr) (fs : List (Str × D)) (Γ : En) (S : Sto) (dx : Addr) (vs : List (Str × V)),
    w.Ok X.kw S → EnOk X.kw B w Γ σ → ExAt w dx vs → Fld X.kw w.r w.F vs fs → PoS X.kw B W w (runH c fs Γ S l) E → wManyA X.kw W E l' (.ref c) (some dx) σ w.H := by
  induction h with
  | nil => exact ⟨[], .nil, fun W E w σ c fs Γ S dx vs o g e f q => q w σ dx vs (Step.refl _) o g e f⟩
  | @cons x cc mt su b₀ suite np pos' hds l hc hm hsu r ih =>
    obtain ⟨l', h1, h2⟩ := ih
    refine ⟨(cc, none, tsOf X B mt none su) :: l', .cons hc (fun a oe cls d pn hz hf => ⟨fun pins s σ H E I h => ?_⟩) h1, fun W E w σ c fs Γ S dx vs o g e f q => ?_⟩
    · obtain ⟨c, dd, fs, B', rfl, rfl, e, z, q⟩ := h
      exact (hsu a oe c dd fs pn B' e hz hf z).run pins s σ H E I q
    · unfold runH at q
      cases em : mt c with
      | none => rw [em] at q; exact q.elim
      | some b =>
        rw [em] at q
        refine ⟨b, hm c b em, fun hb a na => ?_, fun hb => ?_⟩
        · subst hb
          dsimp only at q
          split at q
          · have z : InSu X.kw B ⟨w, B.P⟩ none a dx fs := ⟨g.1.1, fun _ h => h, ⟨vs, e, f⟩, fun j hj => nomatch hj⟩
            exact ⟨c, dx, fs, ⟨w, B.P⟩, rfl, rfl, em, z, w.r, w.F, Γ, S, o, ⟨⟨Step.refl _, g.1.2⟩, g.2⟩, suite_ok (fun j hj => nomatch hj) z q⟩
          · exact q.elim
        · subst hb
          exact h2 W E w σ c fs Γ S dx vs o g e f q
  | @consAs x n i cc mt su b₀ suite np pos' hds l hc hm kp hi hln hsu r ih =>
    obtain ⟨l', h1, h2⟩ := ih
    refine ⟨(cc, some i, tsOf X B mt (some i) su) :: l', .consAs hc hi hln (fun a oe cls d pn hz hf => ⟨fun pins s σ H E I h => ?_⟩) h1, fun W E w σ c fs Γ S dx vs o g e f q => ?_⟩
    · obtain ⟨c, dd, fs, B', rfl, rfl, e, z, q⟩ := h
      exact (hsu a oe c dd fs pn B' e hz hf z).run pins s σ H E I q
    · unfold runH at q
      cases em : mt c with
      | none => rw [em] at q; exact q.elim
      | some b =>
        rw [em] at q
        refine ⟨b, hm c b em, fun hb a na => ?_, fun hb => ?_⟩
        · subst hb
          dsimp only at q
          split at q
          · rename_i hok
            have hlt : i < Γ.length := of_decide_eq_true hok
            have z : InSu X.kw B ⟨w, fun σ => B.P σ ∧ σ[i]? = some (some (.ref a))⟩ (some i) a dx fs := ⟨g.1.1, fun _ h => h.1, ⟨vs, e, f⟩, fun j hj σ h => by cases hj; exact h.2⟩
            have g' := g.forget (i := i) (v := some (V.ref a)) kp
            refine ⟨c, dx, fs, _, rfl, rfl, em, z, w.r, w.F, Γ.set i none, S, o, ⟨⟨Step.refl _, g'.1.2, ?_⟩, g'.2⟩, suite_ok (fun j hj => by cases hj; exact kp) z q⟩
            exact List.getElem?_set_self (by rw [← g.2.1]; exact hlt)
          · exact q.elim
        · subst hb
          exact h2 W E w σ c fs Γ S dx vs o g e f q
theorem ts_try {W : WX} {body : List Stmt} {h₀ : ExceptHandler} {hds : List ExceptHandler} {l : List Hd} {pos : Pos} {m : Sd} (nd : X.N.Nodup) (tk : Takes X W)
    (hb : ∀ (W : WX) (pn : List (Addr × Obj)) (xe : Value → Shared → Prop), Takes (X.tr pn xe) W → PassesOwn (model X.prog X.w) X.A X.env xe → TrSs (X.tr pn xe) B W body m) (hh : TrH X B (h₀ :: hds) l)
    (hs : X.stack = X.env :: X.outer := by rfl) (hf : X.env.frame = some X.env.locals := by rfl) : TrS X B W (.Try body (h₀ :: hds) [] [] pos) (sTry m l) := by
  obtain ⟨l', h1, h2⟩ := hh.to
  refine imS (ps_try_manyA (tb := fun W => cS X.kw B W m) hs hf nd tk hb h1) fun E σ H h => ?_
  obtain ⟨r, F, Γ, S, o, g, q⟩ := h
  refine ⟨r, F, Γ, S, o, g, ?_⟩
  unfold sTry at q
  cases e : m Γ S with
  | nx Γ' S' => rw [e] at q; exact q
  | bk Γ' S' => rw [e] at q; exact q
  | ct Γ' S' => rw [e] at q; exact q
  | rt d S' => rw [e] at q; exact q
  | bad => rw [e] at q; exact q.elim
  | ex c fs Γ' S' =>
    rw [e] at q
    exact fun w' σ' dx vs t o' g' e' f' => h2 W E w' σ' c fs Γ' S' dx vs o' g' e' f' (PoS.step t q)
/-- e.f in a suite, e the caught exception -/
def mLook (fs : List (Str × D)) (f : Str) : Ed := fun _ S => match fs.lookup f with
  | some d => .ok d S
  | none => .bad
theorem tr_xf {W : WX} {B' : Bs} {i : Nat} {a c dd : Addr} {oe : Obj} {fs : List (Str × D)} {pn : List (Addr × Obj)} {n f : Str} {p pos : Pos} (z : InSu X.kw B B' (some i) a dd fs) (hz : Zc (.ref c) (some dd) oe) (hf : ∃ vs, oe.data = .fields vs) (T : XfC X.kw c) (hno : PySem.W.findIn X.kw (.ref c) f = some none)
    (hv : PE (X.suite a ((a, oe) :: pn)) (.Name n p) (tVar i)) (hb : attributeBase (.Name n p) f X.env (eval (.Name n p) X.env) = eval (.Name n p) X.env := by rfl) : Tr (X.suite a ((a, oe) :: pn)) B' W (.Attribute (.Name n p) f pos) (mLook fs f) := by
  refine imE (pe_xf T hno hz hf hv hb) fun σ H Q h => ?_
  obtain ⟨r, F, Γ, S, o, g, q⟩ := h
  obtain ⟨vs, e, ff⟩ := z.ex
  obtain ⟨e1, _, _⟩ := g.1.1.at_side e.1 e.2.1 e.2.2
  unfold mLook at q
  cases el : fs.lookup f with
  | none => rw [el] at q; exact q.elim
  | some d =>
    rw [el] at q
    obtain ⟨v, h1, h2⟩ := (ff.up g.1.1.pre g.1.1.sub).look el
    exact ⟨.ref a, z.sl i rfl σ g.1.2, rfl, rfl, dd, vs, v, rfl, e1, h1, q.now o h2⟩
end

/-! ## raise -/
def tMkX (C : Addr) (f : Str) (ta : TA) : L2.St → Hp → XK → Prop := fun σ H Q => ta σ H fun vs H1 => ∃ v, vs = [v] ∧ ∀ d, H1 d = none → Q (.ref C) (some d) (upd H1 d (.xd [(f, v)]))
def sRaise (C : Addr) (f : Str) (a : Ed) : Sd := fun Γ S => (a Γ S).toS Γ fun d S' => .ex C [(f, d)] Γ S'
theorem ts_raise {X : Cx} {B : Bs} {W : WX} {C : Addr} {f x : Str} {e : Expr} {me : Ed} {p pos pos' : Pos} (tk : Takes X W) (hmk : ∀ ta, PA X [e] ta → PMk X (.Call (.Name x p) [e] [] pos') (tMkX C f ta)) (ha : Tr X B W e me)
    (hpa : ∀ te, PE X e te → PA X [e] (tCons te tNil) := by exact fun _ h => pa_cons h pa_nil) (hc : X.calm = true := by rfl) : TrS X B W (.Raise (some (.Call (.Name x p) [e] [] pos')) none pos) (sRaise C f me) := by
  refine imS (ps_raise hc tk (hmk _ (hpa _ ha))) fun E σ H h => ?_
  obtain ⟨r, F, Γ, S, o, g, q⟩ := h
  refine ⟨r, F, Γ, S, o, g, PoS.bindE g q fun d S1 w1 v _ t1 o1 rp1 q1 => ?_⟩
  refine ⟨v, rfl, fun dx hd => ?_⟩
  obtain ⟨o2, t2⟩ := o1.side (u := .xd [(f, v)]) (.inl hd)
  exact q1 ⟨w1.r, w1.F, upd w1.H dx (.xd [(f, v)])⟩ σ dx _ (t2 hd) o2 ((g.step t1).step (t2 hd)) ⟨upd_same, o1.notin hd, o1.noF hd⟩ (.cons ⟨rfl, rp1⟩ .nil)
end Fx
end

section
set_option Elab.async false
set_option linter.all false
set_option maxRecDepth 100000
set_option maxHeartbeats 2000000
/-! own errors whose __init__ says super().__init__(x); self.f = x -/
namespace Fx
open PySem PySem.Spec PyProof.Rows L2 NdefX
variable [Nam]

structure SupC (K : PySem.W.Frag) (C D : Addr) (f : Str) : Prop where
  ox : OexC K C
  ve : PySem.W.subIn K (.ref C) (.type "ValueError") = some true
  su : PySem.W.ks_superIn K C D "__init__" = some (some (.builtin "ValueError.__init__"))
  md : PySem.W.mroIn K C (.ref D) = some true
  no : PySem.W.findIn K (.ref C) f = some none
/-- what such an __init__ does to (the object, a value) -/
def spSup (K : PySem.W.Frag) (D : Addr) (f : Str) : Sp := fun vs H Q E => ∃ a C v, vs = [.ref a, v] ∧ H a = some (exo a C none) ∧ SupC K C D f ∧ ∀ dx, H dx = none → dx ≠ a → Q .non (upd (upd H dx (exd dx [(f, v)])) a (exo a C (some dx)))
abbrev supBody (n0 n1 fld : Str) (p0 p1 p2 p3 p4 p5 p6 p7 p8 p9 : Pos) : List Stmt :=
  [.Expr (.Call (.Attribute (.Call (.Name "super" p0) [] [] p1) "__init__" p2) [.Name n1 p3] [] p4) p5, .Assign [.Attribute (.Name n0 p6) fld p7] (.Name n1 p8) p9]

section
variable {X : Cx} {pins : List (Addr × Obj)} {σ : L2.St} {H : Hp} {s : Shared}
theorem loc_at (I : Inv X pins σ H s) {i : Nat} {n : Str} {v : V} (hn : X.N[i]? = some n) (hv : σ[i]? = some (some v)) (hk : X.env.kindOf n = some .local) : ∃ m u, s.heap.Ns X.env.locals m ∧ m n = some u ∧ L2.RelV v u := by
  obtain ⟨m, hns, q⟩ := I.loc
  obtain ⟨u, r, l⟩ := q i n v hn hv (.inl hk)
  rcases l with ⟨_, l⟩ | ⟨l, _⟩
  · exact ⟨m, u, hns, l, r⟩
  · rw [hk] at l
    rcases l with l | l <;> cases l
/-- the built-in __init__, bound to the object, called -/
theorem bound_init {a C u : Addr} {us : List Value} {Q : Value → Shared → Prop} {E : Value → Shared → Prop} {A : Around} (T : OexC X.K C) (I : Inv X pins σ H s) (e : H a = some (exo a C none)) (hu : s.heap.get? u = some (PySem.W.kxs_mw "ValueError.__init__" a)) (hl : us.length ≤ sizeLine)
    (h : ∀ s', Inv X pins σ H s' → Q .none s') : wpAny (model X.prog X.w) A (call (.ref u) us) Q E s := by
  obtain ⟨nm, q, N, bs, bm, sn, sub, ab, col, dd, k0, k1, k2, k3, k5, hC, hbm⟩ := T.cls
  obtain ⟨t1, ho⟩ := exo_at I.hok e
  obtain ⟨hp, g, d, t, os⟩ := s
  have fin : ∀ h', (∀ b o, b ≠ a → hp.get? b = some o → h'.get? b = some o) → h'.get? a = some (PySem.HandSPX.excO C hp.objs.size) → h'.get? hp.objs.size = some (PySem.W.excTup us) → Q .none ⟨h', g, d, t, os⟩ := fun h' k hx _ => by
    have J := I.write (t' := t) (x := a) (e := a) (o := exo a C none) (by rw [e]; exact True.intro) (.inl rfl) k ⟨_, hx⟩ (exo_ok hx)
    have eu : upd H a (exo a C none) = H := by
      funext b
      by_cases hb : b = a
      · rw [hb, upd_same, e]
      · rw [upd_ne hb]
    rw [eu] at J
    exact h _ J
  refine wpAny_call (codeAny_of_tree ?_)
  show wpAny _ A.in1 (callAny (.ref u) ⟨us, []⟩) _ _ _
  simp only [callAny]
  refine wpAny_bind (wpAny_load hu ?_)
  simp only [PySem.W.kxs_mw, show (Value.type "method-wrapper" == Value.type "method" || Value.type "method-wrapper" == Value.type "builtin_function_or_method" || Value.type "method-wrapper" == Value.type "method-wrapper") = true by decide, if_true]
  refine PySem.W.KFB.if_so (by decide) ?_
  refine wpAny_bind (PySem.W.check_bound_init PySem.F.excBase_ValueError.toExcCallFacts (I.kIn _ _ hC) ho rfl ?_)
  refine wpAny_bind (wpAny_pure (wpAny_pure ?_))
  refine ⟨plainId_quiet PySem.F.excBase_ValueError.init.plain _, codeAny_builtin PySem.F.excBase_ValueError.initEntry ?_⟩
  exact PySem.W.exc_init_tree (cls := .ref C) (t0 := t1) (dv := none) (c2 := .none) (c3 := .none) (b4 := .bool false) ho hl fin
end
theorem sup_fn {CX : CXT} {P : Program} {w : World} {K : PySem.W.Frag} {mg : Str → Option Value} {base : Heap} {k : Nat} {f cda cc D : Addr} {name qual : Str} {params : Arguments} {scope : Scope} {dV kV doc pm ct oc ccl cl : Value} {an od cdd cld : Option Addr} {osl ccs csl : Array (Option Value)} {n0 n1 fld : Str} {p0 p1 p2 p3 p4 p5 p6 p7 p8 p9 : Pos} {ar : Arg} {vs2 : Array Value} {file : Str} {tf : Tok} {cdD : ClassData}
    (lk : K.lookup f = some ⟨oc, od, .func (PySem.W.ksFn name qual params (supBody n0 n1 fld p0 p1 p2 p3 p4 p5 p6 p7 p8 p9) scope dV kV doc pm an (.ref cda) ct cc), osl⟩) (hcd : PySem.W.codeIn K (.ref cda) qual = true)
    (S : NScope [n0, n1, "__class__"] [n0, n1] ["__class__"] scope) (hp : (params.posonlyargs ++ params.args).head? = some ar) (har : ar.arg = n0)
    (hcode : K.lookup cda = some ⟨ccl, cdd, .fields vs2, ccs⟩) (hvs : vs2[2]? = some (.str file tf)) (hfile : ((P.main.file : Str) == file) = true)
    (hcell : K.lookup cc = some ⟨cl, cld, .cell (some (.ref D)), csl⟩) (hD : PySem.W.clsIn K D = some cdD) (hsuper : mg "super" = none) (hks : scope.names.lookup ("super" : Str) = some .globalImplicit) (htop : (P.main.scope.names.lookup ("super" : Str)).isSome = false)
    (hany : PySem.W.nsIn K cStatics "thirdparty.any" = some none) (hdb : (n0 == ("__debug__" : Str)) = false) (hdb1 : (n1 == ("__debug__" : Str)) = false) (hdc : (n0 == ("__classdict__" : Str)) = false) (hdc1 : (n1 == ("__classdict__" : Str)) = false) (hboot : bootBuiltins "super" = some (.type "super"))
    (hint : ∀ L, interactive (PySem.W.ksEnv qual scope L f (.ref cda) cc) = false)
    (pl : Addr → Sem Bool) (hev : ∀ L, eval (.Call (.Attribute (.Call (.Name "super" p0) [] [] p1) "__init__" p2) [.Name n1 p3] [] p4) (PySem.W.ksEnv qual scope L f (.ref cda) cc) = (do
      let ov ← attributeBase (.Call (.Name "super" p0) [] [] p1) "__init__" (PySem.W.ksEnv qual scope L f (.ref cda) cc) (eval (.Call (.Name "super" p0) [] [] p1) (PySem.W.ksEnv qual scope L f (.ref cda) cc))
      standAt p2.atName
      let (f', first) ← holding [ov] (getMethod ov "__init__" (pl L))
      callWith p4 f' first (backTo p4 (starEach [.Name n1 p3] (PySem.W.ksEnv qual scope L f (.ref cda) cc))) [])) :
    FnOk P w K mg base CX (k + 1) f (PySem.W.ksFn name qual params (supBody n0 n1 fld p0 p1 p2 p3 p4 p5 p6 p7 p8 p9) scope dV kV doc pm an (.ref cda) ct cc) [n0, n1] (spSup K D fld) := by
  refine ⟨fun vs H Q E ⟨a, C, v, e, _⟩ => by subst e; rfl, fun A outer s H args us vs Q E hr e0 hb r hsp => ?_⟩
  obtain ⟨a, C, v, rfl, ea, SC, hq⟩ := hsp
  have KX : K.In s.heap := e0.mod.kin.keeps fun b o e => (e0.bs b o e).1
  have lim : s.heap.NoLimit := e0.mod.nolimit.keeps fun b o e => (e0.bs b o e).1
  have hl := r.length
  have hkc : scope.names.lookup ("__class__" : Str) = some .free := S.frk ("__class__" : Str) (by simp)
  have hk0 : scope.names.lookup n0 = some .local := S.par n0 (by simp)
  have hk1 : scope.names.lookup n1 = some .local := S.par n1 (by simp)
  refine PySem.ks_codeAny_call_defAt hr.depth (KX _ _ lk) rfl lim (PySem.W.codeRec_of KX hcd) rfl hb S.nocell (fun y hy => S.par y.1 (List.of_mem_zip (a := y.1) (b := y.2) hy).1) (fun h₁ hns kp => ?_) S.co S.gen S.kind
  have cellIn : s.heap.get? cc = some ⟨cl, cld, .cell (some (.ref D)), csl⟩ := KX _ _ hcell
  have hbc : base.get? cc = some ⟨cl, cld, .cell (some (.ref D)), csl⟩ := e0.mod.kin _ _ hcell
  let F : NF := ⟨name, qual, params, supBody n0 n1 fld p0 p1 p2 p3 p4 p5 p6 p7 p8 p9, scope, [("__class__", cc)], cda⟩
  have CA : CellsAt F.cl ["__class__"] [none] s.heap H := by
    refine ⟨rfl, fun y c e => ?_, fun x y c e1 e2 => ?_, fun i y hi => ?_⟩
    · have : c = cc := by
        have e : ([("__class__", cc)] : List (Str × Addr)).lookup y = some c := e
        simp only [List.lookup] at e
        split at e
        · exact (Option.some.inj e).symm
        · cases e
      subst this
      exact ⟨(e0.bs _ _ hbc).2, _, _, cellIn, rfl⟩
    · have e1 : ([("__class__", cc)] : List (Str × Addr)).lookup x = some c := e1
      have e2 : ([("__class__", cc)] : List (Str × Addr)).lookup y = some c := e2
      simp only [List.lookup] at e1 e2
      split at e1
      · rename_i h1
        split at e2
        · rename_i h2
          exact (by simpa using h1 : x = "__class__").trans (by simpa using h2 : y = "__class__").symm
        · cases e2
      · cases e1
    · match i with
      | 0 =>
        have : "__class__" = y := Option.some.inj hi
        subst this
        exact ⟨cc, rfl, fun v hv => by cases hv⟩
      | n + 1 => exact absurd hi (by simp)
  have I : Inv (ncx CX P w K mg base [n0, n1, "__class__"] F f A outer s H E) [] (startF [n0, n1, "__class__"] [.ref a, v] [none]) H { s with heap := h₁, toks := s.toks + ([n0, n1].zip us).length } := inv_startN (F := F) S hr.hd e0 rfl r CA hns kp
  let X : Cx := ncx CX P w K mg base [n0, n1, "__class__"] F f A outer s H E
  have I : Inv X [] (startF [n0, n1, "__class__"] [.ref a, v] [none]) H { s with heap := h₁, toks := s.toks + ([n0, n1].zip us).length } := I
  obtain ⟨m, u0, hn0, hm0, ru0⟩ := loc_at I (i := 0) (n := n0) (v := .ref a) rfl rfl hk0
  obtain rfl : u0 = Value.ref a := ru0
  obtain ⟨nm, q, N, bs, bm, sn, sub, ab, col, dd, k0, k1, k2, k3, k5, hC, hbm⟩ := SC.ox.cls
  obtain ⟨t1, ho⟩ := exo_at I.hok ea
  have KI := I.kIn
  obtain ⟨oD, hD1, hD2⟩ : ∃ oD, h₁.get? D = some oD ∧ oD.data = .cls cdD := by
    unfold PySem.W.clsIn at hD
    split at hD
    · rename_i c d cd' sl ho
      cases hD
      exact ⟨_, KI _ _ ho, rfl⟩
    · cases hD
  have hne : a ≠ C := fun z => by
    have z1 := KI _ _ hC
    rw [← z] at z1
    rw [ho] at z1
    exact absurd (congrArg Obj.data (Option.some.inj z1)) (by simp [excClassObj])
  obtain ⟨mb, hb1, hb2⟩ := I.mod.blt
  refine ks_wpAt_execs_cons (ks_wpAt_Expr_any (ks_wpAt_MethodCall (env := PySem.W.ksEnv qual scope s.heap.objs.size f (.ref cda) cc) (pl := pl _) ?_ (hev _)) (hint _))
  refine ks_wpAt_super_base (env := PySem.W.ksEnv qual scope s.heap.objs.size f (.ref cda) cc) hks hkc (by decide) rfl (KI _ _ lk) rfl hp rfl (KI _ _ hcode) rfl hvs hfile htop ?_
  refine PySem.W.ks_loadName_global S.kind hks (Calls.loadGlobal_builtin (env := PySem.W.ksEnv qual scope s.heap.objs.size f (.ref cda) cc) (I.mod.glob.keeps I.bk) hsuper (hb1.keeps I.bk) ((hb2 _ (by decide +kernel)).trans hboot) ⟨rfl, ?_⟩)
  refine wpAny_loadName_free S.kind hkc rfl ⟨_, KI _ _ hcell, rfl⟩ ?_
  rw [har]
  refine wpAny_loadName_local S.kind hk0 hn0 hm0 ?_
  refine ks_wpAny_isType_cls hD1 hD2 ⟨rfl, ?_⟩
  refine ks_wpAny_call_super hD1 hD2 ho rfl (fun c e => by cases e) (PySem.W.looks_mroIn KI SC.md) (fun h2 hso k2 => ?_)
  have I2 : Inv X [] (startF [n0, n1, "__class__"] [.ref a, v] [none]) H { s with heap := h2, toks := s.toks + ([n0, n1].zip us).length } := I.kept k2
  have KI2 := I2.kIn
  have ho2 := k2 _ _ ho
  have hsz : ∀ n : Nat, s.toks + ([n0, n1].zip us).length + n = s.toks + ([n0, n1].zip us).length + n := fun _ => rfl
  cases hcd2 : PySem.W.clsIn K C with
  | none => have z := SC.su; unfold PySem.W.ks_superIn at z; rw [hcd2] at z; cases z
  | some cd =>
  have hsu := SC.su
  unfold PySem.W.ks_superIn at hsu
  rw [hcd2] at hsu
  have IA : PySem.W.InstAt h2 a _ C none := ⟨ho2, rfl, rfl, trivial⟩
  have hI : PySem.W.Looks (model P w) h2 (isInstance (.ref a) (.type "ValueError")) true := IA.type.andThen (PySem.W.looks_subIn KI2 SC.ve)
  refine PySem.W.kxs_getMethod PySem.W.kxs_ValueError hso (PySem.W.looks_opaque KI2 hany) (l₀ := cd.mro) (fun A Q E s k q => wpAny_bind ((PySem.W.looks_clsIn KI2 hcd2) A _ E s k (wpAny_pure q))) rfl KI2 hsu hI hne (by decide) ?_
  have k3 : ∀ b o, h2.get? b = some o → (h2.push (PySem.W.kxs_mw "ValueError.__init__" a)).get? b = some o := fun b o e => Heap.get?_push_of_some _ e
  have hu3 : (h2.push (PySem.W.kxs_mw "ValueError.__init__" a)).get? h2.objs.size = some (PySem.W.kxs_mw "ValueError.__init__" a) := Heap.get?_push_at rfl rfl
  have I3 : Inv X [] (startF [n0, n1, "__class__"] [.ref a, v] [none]) H { s with heap := h2.push (PySem.W.kxs_mw "ValueError.__init__" a), toks := s.toks + ([n0, n1].zip us).length + 1 } := I2.kept k3
  obtain ⟨m3, u1, hn3, hm3, ru1⟩ := loc_at I3 (i := 1) (n := n1) (v := v) rfl rfl hk1
  refine PySem.W.kxs_callWith (i := "ValueError.__init__") (x := a) (by rfl) (Calls.evalArgs_plain (Calls.spliced_cons ?_))
  refine wpAny_Name (wpAny_loadName_local S.kind hk1 hn3 hm3 ?_) hdb1
  refine Calls.spliced_nil ⟨hu3, ?_⟩
  refine bound_init (X := X) SC.ox I3 ea hu3 (by simp [sizeLine_eq]) fun s4 I4 => ?_
  refine wpAt_of_wpAny ?_
  have hfin := (pss_cons (ps_ost (X := X) (o := .Name n0 p6) (e := .Name n1 p8) (p' := p7) (pos := p9) (f := fld) (pe_var (i := 0) rfl (.inl hk0) hdb hdc) (pe_var (i := 1) rfl (.inl hk1) hdb1 hdc1) rfl) pss_nil).run
  refine wpAny_mono (hfin [] s4 _ H { nx := fun _ H' => Q .non H', rt := Q } I4 ⟨v, rfl, .ref a, rfl, a, C, rfl, SC.ox, SC.no, .inl ⟨ea, hq⟩⟩) (fun fl s' hs => ?_) fun e s' hs => hs
  cases fl with
  | ret u =>
    obtain ⟨v, σ', H', J, rv, q⟩ := hs
    exact ⟨v, H', J.os, J.bare, J.base, J.hok, rv, q⟩
  | next =>
    obtain ⟨σ', H', J, q⟩ := hs
    exact ⟨V.non, H', J.os, J.bare, J.base, J.hok, rfl, q⟩
  | brk =>
    obtain ⟨_, _, _, q⟩ := hs
    exact False.elim q
  | cont =>
    obtain ⟨_, _, _, q⟩ := hs
    exact False.elim q
def wkA (ta : TA) : TA := fun σ H Q => ∃ Q', ta σ H Q' ∧ ∀ vs H1, Q' vs H1 → Q vs H1
theorem pa_wk {X : Cx} {es : List Expr} {ta : TA} (h : PA X es ta) : PA X es (wkA ta) := ⟨fun pos pins s σ H Q I ⟨Q', h1, h2⟩ => thn (h.run pos pins s σ H Q' I h1) fun us s1 ⟨vs, H1, I1, r, q⟩ => ⟨vs, H1, I1, r, h2 _ _ q⟩⟩
theorem pmk_sup {X : Cx} {CX : CXT} {x : Str} {C D fI : Addr} {k : Nat} {fd : FuncData} {n0 n1 fld : Str} {e : Expr} {p pos : Pos} {ta : TA} (SC : SupC X.K C D fld) (iC : PySem.W.findIn X.K (.ref C) "__init__" = some (some (.ref fI))) (tI : PySem.W.typeIn X.K (.ref fI) = some (.type "function"))
    (F1 : FnOk X.prog X.w X.K X.mg X.base CX k fI fd [n0, n1] (spSup X.K D fld)) (hr : Room (k + 1) X.A) (hb : Binds X.K fd [n0, n1] []) (hx : Passes CX X (fun _ _ _ => False)) (hg : Gl X x) (hm : X.mg x = some (.ref C)) (ha : PA X [e] ta)
    (hdb : (x == ("__debug__" : Str)) = false := by decide) (he : starEach [e] X.env = (false, eval e X.env) :: starEach [] X.env := by rfl) :
    PMk X (.Call (.Name x p) [e] [] pos) (tMkX C fld ta) := by
  intro pins s σ H Q I h
  refine pmk_oex (X := X) (dvs := []) (ds := []) SC.ox iC tI F1 hr hb .nil hx hg hm (pa_wk ha) hdb he rfl pins s σ H Q I ?_
  refine ⟨_, h, fun vs H1 ⟨v, hv, q⟩ => ?_⟩
  subst hv
  refine ⟨by simp, fun a na => ⟨a, C, v, rfl, upd_same, SC, fun dx nd hne => ⟨rfl, dx, [(fld, v)], upd_same, ?_, ?_, ?_⟩⟩⟩
  · rw [upd_ne hne, upd_same]
  · rw [upd_ne hne] at nd
    exact nd
  · have nd' : H1 dx = none := by
      rw [upd_ne hne] at nd
      exact nd
    have e : upd (del (upd (upd (upd H1 a (exo a C none)) dx (exd dx [(fld, v)])) a (exo a C (some dx))) a) dx (.xd [(fld, v)]) = upd H1 dx (.xd [(fld, v)]) := by
      funext b
      by_cases hb : b = dx
      · rw [hb, upd_same, upd_same]
      · rw [upd_ne hb, upd_ne hb]
        by_cases ha : b = a
        · rw [ha, del_same, na]
        · rw [del_ne ha, upd_ne ha, upd_ne hb, upd_ne ha]
    rw [e]
    exact q dx nd'
end Fx
end

section
set_option Elab.async false
set_option linter.all false
set_option maxRecDepth 100000
set_option maxHeartbeats 2000000
namespace Fx
open PySem PySem.Spec PyProof.Rows L2
variable [Nam]

/-! ## the repr of nested tuples: some bounded text -/
def RpS (prog : Program) (w : World) (h : Heap) (x : Value) (n d : Nat) : Prop :=
  ∀ (b : Nat) (A : Around) (E : Value → Shared → Prop) (s : Shared) (Q : Str → Shared → Prop), s.heap = h → A.units + d < cLine → b + n ≤ sizeLine → (∀ m tk, m.length ≤ n → Q m { s with toks := tk }) → wpAny (model prog w) A (pyReprUnder b x) Q E s
def sum2 (ns : List Nat) : Nat := (ns.map (· + 2)).sum
theorem sum2_cons (n : Nat) (ns : List Nat) : sum2 (n :: ns) = n + 2 + sum2 ns := by unfold sum2; rw [List.map_cons, List.sum_cons]
section
variable {prog : Program} {w : World} {h : Heap}
theorem RpS.of {x : Value} {t : Str} {n d : Nat} (r : ReprIs prog w x t) (hn : t.length ≤ n) : RpS prog w h x n d := fun b A E s Q _ _ hb q => r b (by omega) A E s Q fun tk => q t tk hn
theorem RpS.mono {x : Value} {n d n' d' : Nat} (r : RpS prog w h x n d) (hn : n ≤ n') (hd : d ≤ d') : RpS prog w h x n' d' := fun b A E s Q e hu hb q => r b A E s Q e (by omega) (by omega) fun m tk hm => q m tk (by omega)
theorem tupFoldS {A : Around} {E : Value → Shared → Prop} {d : Nat} (hu : A.units + d < cLine) : ∀ (l : List Value) (ns : List Nat) (acc : Array Str) (n : Nat) (s : Shared) (Q : (Array Str × Nat) → Shared → Prop), Paired (fun x n => RpS prog w h x n d) l ns → s.heap = h → n + sum2 ns ≤ sizeLine →
    (∀ (ts : List Str) (n' : Nat) tk, ts.length = l.length → piled ts ≤ sum2 ns → Q ⟨acc ++ ts.toArray, n'⟩ { s with toks := tk }) → wpAny (model prog w) A (forIn l (⟨acc, n⟩ : (Array Str × Nat)) tupBody) Q E s := by
  intro l
  induction l with
  | nil =>
    intro ns acc n s Q hT hh hn q
    have h0 := q [] n s.toks rfl (Nat.zero_le _)
    simp only [List.forIn_nil]
    exact wpAny_pure (by simpa using h0)
  | cons x l ih =>
    intro ns acc n s Q hT hh hn q
    cases hT with
    | @cons _ m _ ns hx hl =>
      rw [sum2_cons] at hn
      rw [List.forIn_cons]
      refine wpAny_bind (wpAny_bind (hx (n + 1) A _ s _ hh hu (by omega) fun t tk ht => wpAny_pure ?_))
      refine ih ns (acc.push t) (n + (t.length + 2)) _ Q hl hh (by omega) fun ts n' tk' e1 e2 => ?_
      have h1 := q (t :: ts) n' tk' (by simp [e1]) (by rw [piled_cons, sum2_cons]; omega)
      simpa using h1
theorem reprAtS {A : Around} {E : Value → Shared → Prop} {s : Shared} {a : Addr} {o : Obj} {items : Array Value} {k d b : Nat} {ns : List Nat} {Q : Fin → Shared → Prop} (hu : A.units + d < cLine) (ha : s.heap.get? a = some o) (hd : o.data = .seq items k) (hT : Paired (fun x n => RpS prog w s.heap x n d) items.toList ns)
    (hz : b + (sum2 ns + 5) ≤ sizeLine) (q : ∀ (m : Str) (u tk : Tok), m.length ≤ sum2 ns + 5 → Q (.done (.ret (.str m u))) { s with toks := tk }) : wpAny (model prog w) A (Builtin.tupleReprAt b ⟨[.ref a], []⟩) Q E s := by
  rw [tuple_repr_tree]
  refine wpAny_bind (fmt_underWay fun b => ?_)
  cases b with
  | true =>
    refine PySem.W.KFB.if_so rfl ?_
    refine wpAny_bind (wpAny_rule ?_)
    refine wpAny_bind (wpAny_mkStr (wpAny_pure ?_) (by decide +kernel))
    exact q "(...)" _ _ (Nat.le_trans fmt_way (Nat.le_add_left _ _))
  | false =>
    refine PySem.W.KFB.if_not rfl ?_
    unfold tupleReprRest Builtin.Tuple.tupleItemsOf
    refine wpAny_bind (wpAny_bind (wpAny_seqItems ha hd (wpAny_pure ?_)))
    rw [← Array.forIn_toList]
    refine wpAny_bind (tupFoldS hu _ ns _ _ _ _ hT rfl (by omega) fun ts n' tk e1 e2 => ?_)
    have hlen : ts.length = items.size := by simpa using e1
    have ht := fmt_text ts
    refine wpAny_bind (wpAny_mkStr (wpAny_pure ?_) (by
      have : (tupleText ts).length ≤ sizeLine := by omega
      simpa [tupleText, hlen] using this))
    have h1 := q (tupleText ts) tk (tk + 1) (by omega)
    simpa [tupleText, hlen] using h1
theorem rps_tuple {a : Addr} {o : Obj} {items : Array Value} {k d : Nat} {ns : List Nat} (ha : h.get? a = some o) (hc : o.cls = .type "tuple") (hd : o.data = .seq items k) (hT : Paired (fun x n => RpS prog w h x n d) items.toList ns) : RpS prog w h (.ref a) (sum2 ns + 5) (d + 1) := by
  intro b A E s Q hh hu hb q
  subst hh
  have hTy : s.TypeIs (.ref a) "tuple" := ⟨o, ha, hc⟩
  refine wpAny_pyReprUnder_ref (by omega) (wpAny_pyReprObjUnder_twin (twin := "tuple.__repr__.under") hTy F.slot_tuple_repr rfl (by omega) (call_twin_own (F.quiet_tuple_repr_under _) F.entry_tuple_repr_under F.check_tuple_repr_under hTy F.slot_tuple_repr (F.args_tuple_repr_1 _) (wpOwn_of_wpAny ?_)))
  refine reprAtS (d := d) (by rw [units_under_tuple_repr_under]; omega) ha hd hT hb fun m u tk hm => ?_
  exact ⟨⟨m, u, rfl⟩, m, u, rfl, q m tk hm⟩
/-- tuple.__repr__ itself -/
theorem call_reprS {A : Around} {E : Value → Shared → Prop} {s : Shared} {a : Addr} {o : Obj} {items : Array Value} {k d : Nat} {ns : List Nat} {Q : Value → Shared → Prop} (hu : A.units + (d + 1) < cLine) (ha : s.heap.get? a = some o) (hc : o.cls = .type "tuple") (hd : o.data = .seq items k) (hT : Paired (fun x n => RpS prog w s.heap x n d) items.toList ns)
    (hz : sum2 ns + 5 ≤ sizeLine) (q : ∀ (m : Str) (u tk : Tok), m.length ≤ sum2 ns + 5 → Q (.str m u) { s with toks := tk }) : wpAny (model prog w) A (call (.builtin "tuple.__repr__") [.ref a]) Q E s := by
  refine wpAny_call (codeAny_call_builtin_own (Code.quiet_builtin _ (by decide +kernel)) F.entry_tuple_repr (F.slot_tuple_repr.check _ _ _ _ _ _ _ _ ⟨o, ha, hc⟩ (F.args_tuple_repr_1 _) (wpOwn_of_wpAny ?_)))
  refine reprAtS (b := 0) (d := d) (by rw [units_under_tuple_repr]; omega) ha hd hT (by omega) fun m u tk hm => q m u tk hm
theorem str_of_tupS {A : Around} {E : Value → Shared → Prop} {s : Shared} {a : Addr} {o : Obj} {items : Array Value} {k d : Nat} {ns : List Nat} {Q : Value → Shared → Prop} (hu : A.units + (d + 6) < cLine) (ha : s.heap.get? a = some o) (hc : o.cls = .type "tuple") (hd : o.data = .seq items k) (hT : Paired (fun x n => ∀ prog w, RpS prog w s.heap x n d) items.toList ns)
    (hz : sum2 ns + 5 ≤ sizeLine) (q : ∀ (m : Str) (u tk : Tok), m.length ≤ sum2 ns + 5 → Q (.str m u) { s with toks := tk }) : wpAny (model prog w) A (call (.type "str") [.ref a]) Q E s :=
  callType_new F.called_str (by decide) (F.typeCall_str_1 _) (F.newCall_str_1 _) (fun obj => F.args_object_init_2 obj _) F.entry_str_new
    (meets_str_new (S := fun A' R s' => A'.units + (d + 5) < cLine ∧ s'.heap = s.heap ∧ ∀ (m : Str) (u tk : Tok), m.length ≤ sum2 ns + 5 → R (.ok (.ret (.str m u))) { s' with toks := tk })
      fun prog' w' A' R s' hs => wpAny_strOf_slot rfl (by have := hs.1; show A'.units + 1 + 1 < cLine; omega) ⟨o, by rw [hs.2.1]; exact ha, hc⟩ F.slot_tuple_str F.slot_tuple_repr
        (call_reprS (d := d) (by have := hs.1; show A'.units + 1 + 1 + (d + 1) < cLine; omega) (by rw [hs.2.1]; exact ha) hc hd (Paired.mapP hT fun x n r => by rw [hs.2.1]; exact r prog' w') hz fun m u tk hm => ⟨m, u, rfl, hs.2.2 m u tk hm⟩))
    ⟨by show A.units + 1 + (d + 5) < cLine; omega, rfl, fun m u tk hm => ⟨typeIs_str _ _ _, q m u tk hm⟩⟩
end

/-! ## str(x) -/
mutual
inductive ShV (K : Kw) (H : Hp) : V → Nat → Nat → Prop
  | non {d : Nat} : ShV K H .non 4 d
  | bl {b : Bool} {d : Nat} : ShV K H (.bl b) 5 d
  | int {i : Int} {d : Nat} : i.natAbs.log2 < 1920 → (toString i : Str).length ≤ 10000 → ShV K H (.int i) (toString i : Str).length d
  | str {x : Str} {d : Nat} : (∀ c ∈ x.cps.toList, c < 16 ^ 8) → x.length ≤ 1000000 → ShV K H (.str x) (10 * x.length + 2) d
  | tup {a : Addr} {vs : List V} {ns : List Nat} {d : Nat} : SqT K H a vs → ShVs K H vs ns d → ShV K H (.ref a) (sum2 ns + 5) (d + 1)
inductive ShVs (K : Kw) (H : Hp) : List V → List Nat → Nat → Prop
  | nil {d : Nat} : ShVs K H [] [] d
  | cons {v : V} {vs : List V} {n : Nat} {ns : List Nat} {d : Nat} : ShV K H v n d → ShVs K H vs ns d → ShVs K H (v :: vs) (n :: ns) d
end
section
variable {X : Cx} {pins : List (Addr × Obj)} {σ : L2.St} {H : Hp} {s : Shared}
mutual
theorem shV_rps (I : Inv X pins σ H s) : ∀ {v : V} {u : Value} {n d : Nat}, ShV X.kw H v n d → L2.RelV v u → ∀ prog w, RpS prog w s.heap u n d
  | _, _, _, _, .non, r, prog, w => by cases (show _ = Value.none from r); exact RpS.of ReprIs.none (by decide +kernel)
  | _, _, _, _, .bl (b := b), r, prog, w => by cases (show _ = Value.bool b from r); exact RpS.of (ReprIs.bool b) (by cases b <;> decide +kernel)
  | _, _, _, _, .int (i := i) h hz, r, prog, w => by obtain ⟨t, q⟩ := (show ∃ t, _ = Value.int i t from r); cases q; exact RpS.of (ReprIs.int t h) (Nat.le_refl _)
  | _, _, _, _, .str (x := x) h hz, r, prog, w => by
    obtain ⟨t, q⟩ := (show ∃ t, _ = Value.str x t from r)
    cases q
    have hl := StrLaws.reprText_len x h
    exact RpS.of (ReprIs.str x t (by rw [sizeLine_eq]; omega)) hl
  | _, _, _, _, .tup (a := a) ht hs, r, prog, w => by
    cases (show _ = Value.ref a from r)
    obtain ⟨its, rv, ⟨o, ho, hcl, n, hd⟩, _⟩ := I.tuple ht
    exact rps_tuple ho hcl hd (shVs_rps I hs rv prog w)
theorem shVs_rps (I : Inv X pins σ H s) : ∀ {vs : List V} {us : List Value} {ns : List Nat} {d : Nat}, ShVs X.kw H vs ns d → Vals vs us → ∀ prog w, Paired (fun x n => RpS prog w s.heap x n d) us ns
  | _, _, _, _, .nil, .nil, _, _ => .nil
  | _, _, _, _, .cons h hs, .cons r rs, prog, w => .cons (shV_rps I h r prog w) (shVs_rps I hs rs prog w)
end
theorem paired_all {α β : Type} {P : Program → World → α → β → Prop} : ∀ {xs : List α} {ys : List β}, xs.length = ys.length → (∀ p w, Paired (P p w) xs ys) → Paired (fun x y => ∀ p w, P p w x y) xs ys
  | [], [], _, _ => .nil
  | x :: xs, y :: ys, hl, h => .cons (fun p w => by cases h p w with | cons a _ => exact a) (paired_all (by simpa using hl) fun p w => by cases h p w with | cons _ b => exact b)
  | [], _ :: _, hl, _ => by simp at hl
  | _ :: _, [], hl, _ => by simp at hl
theorem call_strA {k : Nat} (hr : Room k X.A) : CallR X (.type "str") (fun xs H Q => ((∃ i, xs = [.int i] ∧ i.natAbs.log2 < 1920 ∧ Q (.str (toString i)) H) ∨ (∃ a, xs = [.str a] ∧ Q (.str a) H)) ∨
    (∃ a vs ns d, xs = [.ref a] ∧ SqT X.kw H a vs ∧ ShVs X.kw H vs ns d ∧ vs.length = ns.length ∧ d ≤ 150 ∧ sum2 ns + 5 ≤ sizeLine ∧ ∀ m : Str, m.length ≤ sum2 ns + 5 → Q (.str m) H)) := by
  refine CallR.or (CallR.or call_str_int SkE.call_str_str) ?_
  intro pins s σ H xs us Q I r h
  obtain ⟨a, vs, ns, d, rfl, ht, hs, hl, hd, hz, q⟩ := h
  obtain ⟨u, rfl, r1⟩ := Vals.one r
  cases (show u = Value.ref a from r1)
  obtain ⟨its, rv, ⟨o, ho, hcl, n, hdd⟩, _⟩ := I.tuple ht
  have hu := hr.un
  refine str_of_tupS (d := d) (ns := ns) (by omega) ho hcl hdd ?_ hz fun m u tk hm => ⟨.str m, H, I.tok _, ⟨u, rfl⟩, q m hm⟩
  have e : its.length = ns.length := by rw [← rv.length]; exact hl
  exact paired_all (P := fun p w x n => RpS p w s.heap x n d) e (shVs_rps I hs rv)
end
mutual
def shD (d : Nat) : D → Option Nat
  | .non => some 4
  | .bl _ => some 5
  | .int i => if i.natAbs.log2 < 1920 ∧ (toString i : Str).length ≤ 10000 then some (toString i : Str).length else none
  | .str x => if (x.cps.toList.all fun c => decide (c < 16 ^ 8)) = true ∧ x.length ≤ 1000000 then some (10 * x.length + 2) else none
  | .tup xs => match d with
    | 0 => none
    | d + 1 => (shDs d xs).map fun ns => sum2 ns + 5
  | _ => none
def shDs (d : Nat) : List D → Option (List Nat)
  | [] => some []
  | x :: xs => (shD d x).bind fun n => (shDs d xs).map fun ns => n :: ns
end
mutual
theorem shD_ok {K : Kw} {w : Wd} {S : Sto} (o : w.Ok K S) : ∀ {d : Nat} {v : V} {x : D} {n : Nat}, Rep K w.r w.F v x → shD d x = some n → ShV K w.H v n d
  | _, _, _, _, .non, e => by rw [shD] at e; cases e; exact .non
  | _, _, _, _, .bl b, e => by rw [shD] at e; cases e; exact .bl
  | _, _, _, _, .int i, e => by
    rw [shD] at e
    split at e
    · rename_i h
      cases e
      exact .int h.1 h.2
    · cases e
  | _, _, _, _, .str x, e => by
    rw [shD] at e
    split at e
    · rename_i h
      cases e
      exact .str (fun c hc => of_decide_eq_true (List.all_eq_true.mp h.1 c hc)) h.2
    · cases e
  | 0, _, _, _, .tup h hs, e => by rw [shD] at e; cases e
  | d + 1, _, _, _, .tup h hs, e => by
    rw [shD] at e
    obtain ⟨ns, e1, e2⟩ := Option.map_eq_some_iff.mp e
    subst e2
    exact .tup (sqT_sub o.sub h) (shDs_ok o hs e1)
  | _, _, _, _, .lst _ _, e => by rw [shD] at e <;> first | cases e | simp
  | _, _, _, _, .fz _ _, e => by rw [shD] at e <;> first | cases e | simp
  | _, _, _, _, .ref _, e => by rw [shD] at e <;> first | cases e | simp
  | _, _, _, _, .opq _, e => by rw [shD] at e <;> first | cases e | simp
  | _, _, _, _, .adr _, e => by rw [shD] at e <;> first | cases e | simp
  | _, _, _, _, .dct _ _ _ _, e => by rw [shD] at e <;> first | cases e | simp
theorem shDs_ok {K : Kw} {w : Wd} {S : Sto} (o : w.Ok K S) : ∀ {d : Nat} {vs : List V} {xs : List D} {ns : List Nat}, Reps K w.r w.F vs xs → shDs d xs = some ns → ShVs K w.H vs ns d
  | _, _, _, _, .nil, e => by rw [shDs] at e; cases e; exact .nil
  | _, _, _, _, .cons h hs, e => by
    rw [shDs] at e
    obtain ⟨n, e1, e2⟩ := Option.bind_eq_some_iff.mp e
    obtain ⟨ns, e3, e4⟩ := Option.map_eq_some_iff.mp e2
    subst e4
    exact .cons (shD_ok o h e1) (shDs_ok o hs e3)
end
theorem shVs_len {K : Kw} {H : Hp} : ∀ {vs : List V} {ns : List Nat} {d : Nat}, ShVs K H vs ns d → vs.length = ns.length
  | _, _, _, .nil => rfl
  | _, _, _, .cons _ h => congrArg (· + 1) (shVs_len h)
def fStr : Fn := fun ds S => match ds with
  | [.int i] => if i.natAbs.log2 < 1920 then .ok (.str (toString i)) S else .bad
  | [.str x] => .ok (.str x) S
  | [.opq n] => .ok (.opq n) S
  | [.tup xs] => match shDs 100 xs with
    | some ns => if sum2 ns + 5 ≤ big then .ok (.opq (sum2 ns + 5)) S else .bad
    | none => .bad
  | _ => .bad
section
variable {X : Cx} {B : Bs} {W : WX} {e : Expr} {es : List Expr} {p pos : Pos} {mA : Ad}
theorem so_str {K : Kw} : SoC K (fun xs H Q => ((∃ i, xs = [.int i] ∧ i.natAbs.log2 < 1920 ∧ Q (.str (toString i)) H) ∨ (∃ a, xs = [.str a] ∧ Q (.str a) H)) ∨
    (∃ a vs ns d, xs = [.ref a] ∧ SqT K H a vs ∧ ShVs K H vs ns d ∧ vs.length = ns.length ∧ d ≤ 150 ∧ sum2 ns + 5 ≤ sizeLine ∧ ∀ m : Str, m.length ≤ sum2 ns + 5 → Q (.str m) H)) fStr := by
  intro W w σ S xs ds Q o rs h
  cases rs with
  | nil => exact h.elim
  | @cons v vs d ds r rs =>
    cases rs with
    | cons _ _ => cases d <;> exact h.elim
    | nil =>
      cases r with
      | int i =>
        unfold fStr at h
        dsimp only at h
        split at h
        · rename_i hz
          exact .inl (.inl ⟨i, rfl, hz, h.now o (.str _)⟩)
        · exact h.elim
      | str x => exact .inl (.inr ⟨x, rfl, h.now o (.str _)⟩)
      | @opq x n hn => exact .inl (.inr ⟨x, rfl, h.now o (.opq hn)⟩)
      | @tup a vs xs h1 h2 =>
        unfold fStr at h
        dsimp only at h
        cases e : shDs 100 xs with
        | none => rw [e] at h; exact h.elim
        | some ns =>
          rw [e] at h
          dsimp only at h
          split at h
          · rename_i hz
            have hs := shDs_ok o h2 e
            exact .inr ⟨a, vs, ns, 100, rfl, sqT_sub o.sub h1, hs, shVs_len hs, by decide, big_le hz, fun m hm => h.now o (.opq hm)⟩
          · exact h.elim
      | _ => exact h.elim
theorem tr_strc {k : Nat} (hr : Room k X.A) (hm : X.mg "str" = none) (ha : TrA X B W (e :: es) mA) (hg : Gl X "str" := by rfl) (he : starEach (e :: es) X.env = (false, eval e X.env) :: starEach es X.env := by rfl) (hpl : (backTo pos (starEach es X.env)).any (·.1) = false := by rfl) :
    Tr X B W (.Call (.Name "str" p) (e :: es) [] pos) (mBlt fStr mA) := tr_blty (call_strA hr) so_str hm (by decide +kernel) ha hg (by decide) (by decide) he hpl
end
end Fx
end

section
set_option Elab.async false
set_option linter.all false
set_option maxRecDepth 100000
set_option maxHeartbeats 2000000
namespace Fx
open PySem PySem.Spec PyProof.Rows L2
variable [Nam]
section
variable {X : Cx} {B : Bs} {W : WX} {o e : Expr} {es : List Expr} {p apos pos : Pos} {mo me : Ed} {mA : Ad}

/-! ## o.append(e), o.pop(), s.join(e) -/
def isM (S : Sto) (n : Nat) : Bool := match S[n]? with | some (.lst _) => true | _ => false
def mAppend (o e : Ed) : Ed := fun Γ S => (o Γ S).bind fun x S1 => match x with
  | .ref n => if isM S1 n = true then (e Γ S1).bind fun y S2 => match S2[n]? with
    | some (.lst xs) => if xs.length < big then .ok .non (S2.set n (.lst (xs ++ [y]))) else .bad
    | _ => .bad else .bad
  | _ => .bad
theorem isM_at {K : Kw} {w : Wd} {S : Sto} (o : w.Ok K S) {a : Addr} {n : Nat} (h : w.r[n]? = some a) (e : isM S n = true) : ∃ vs, w.H a = some (.lst vs) := by
  unfold isM at e
  split at e
  · rename_i xs hx
    obtain ⟨vs, h1, _⟩ := o.obj n _ a hx h
    exact ⟨vs, h1⟩
  · cases e
theorem tr_append (ho : Tr X B W o mo) (he : Tr X B W e me) (hbase : attributeBase o "append" X.env (eval o X.env) = eval o X.env := by rfl)
    (hfew : ((backTo pos (starEach [e] X.env)).all (fun x => !x.1) && (backToKw pos (keywordEach [] X.env)).all (fun x => x.1.isSome)
      && decide (([e] : List Expr).length + ([] : List Keyword).length + (if ([] : List Keyword).isEmpty then 0 else 1) < 30)) = true := by rfl)
    (hline : (apos.endLine == pos.line) = true := by rfl) (hs : starEach [e] X.env = (false, eval e X.env) :: starEach [] X.env := by rfl) :
    Tr X B W (.Call (.Attribute o "append" apos) [e] [] pos) (mAppend mo me) := by
  refine imE (pe_bm F.plainAttrs_list F.slot_list_append F.type_list_append mt_append ho (pa_cons he pa_nil hs) hbase hfew hline hs rfl) fun σ H Q h => ?_
  obtain ⟨r0, F0, Γ, S, oo, g, q⟩ := h
  refine ⟨r0, F0, Γ, S, oo, g, PoE.bindE q fun d S1 w1 v _ t1 o1 rp1 q1 => ?_⟩
  cases rp1 with
  | @ref a n hn =>
    dsimp only at q1
    split at q1
    · rename_i hm
      obtain ⟨vs0, hv0⟩ := isM_at o1 hn hm
      refine ⟨.inl ⟨rfl, vs0, .of hv0⟩, w1.r, w1.F, Γ, S1, o1, g.step t1, PoE.bindE q1 fun d2 S2 w2 v2 _ t2 o2 rp2 q2 => ?_⟩
      split at q2
      · rename_i xs hx
        split at q2
        · rename_i hz
          obtain ⟨vs, h1, h2⟩ := o2.obj n _ a hx (pre_get t2.pre hn)
          have hb : xs.length < big := hz
          refine ⟨a, vs, v2, rfl, rfl, h1, big_lt (by rw [h2.len]; exact hb), ?_⟩
          obtain ⟨o3, t3⟩ := o2.put (u := .lst (vs ++ [v2])) (x := .lst (xs ++ [d2])) hx (by simp) (by simp) (pre_get t2.pre hn) ⟨_, upd_same, h2.app (.cons rp2 .nil)⟩
          exact q2 _ _ t3 o3 .non
        · exact q2.elim
      · exact q2.elim
    · exact q1.elim
  | _ => exact q1.elim
def mPop (o : Ed) : Ed := fun Γ S => (o Γ S).bind fun x S1 => match x with
  | .ref n => match S1[n]? with
    | some (.lst xs) => match xs[xs.length - 1]? with
      | some y => .ok y (S1.set n (.lst xs.dropLast))
      | none => .bad
    | _ => .bad
  | _ => .bad
theorem tr_pop (ho : Tr X B W o mo) (hbase : attributeBase o "pop" X.env (eval o X.env) = eval o X.env := by rfl) (hline : (apos.endLine == pos.line) = true := by rfl) :
    Tr X B W (.Call (.Attribute o "pop" apos) [] [] pos) (mPop mo) := by
  refine imE (pe_bm0 F.plainAttrs_list F.slot_list_pop F.type_list_pop mt_pop ho hbase hline) fun σ H Q h => ?_
  obtain ⟨r0, F0, Γ, S, oo, g, q⟩ := h
  refine ⟨r0, F0, Γ, S, oo, g, PoE.bindE q fun d S1 w1 v _ t1 o1 rp1 q1 => ?_⟩
  cases rp1 with
  | @ref a n hn =>
    dsimp only at q1
    split at q1
    · rename_i xs hx
      split at q1
      · rename_i y hy
        obtain ⟨vs, h1, h2⟩ := o1.obj n _ a hx hn
        obtain ⟨v, hv, rv⟩ := h2.get hy
        refine ⟨.inl ⟨rfl, vs, .of h1⟩, a, vs, v, rfl, rfl, h1, by rw [h2.len]; exact hv, ?_⟩
        obtain ⟨o3, t3⟩ := o1.put (u := .lst vs.dropLast) (x := .lst xs.dropLast) hx (by simp) (by simp) hn ⟨_, upd_same, h2.dropLast⟩
        exact q1 _ _ t3 o3 rv
      · exact q1.elim
    · exact q1.elim
  | _ => exact q1.elim
/-- the texts of a list -/
def strsD : List D → Option (List Str)
  | [] => some []
  | .str x :: r => (strsD r).map fun l => x :: l
  | _ => none
theorem strsD_ok {K : Kw} {r : List Addr} {F : Hp} : ∀ {vs : List V} {ds : List D} {l : List Str}, Reps K r F vs ds → strsD ds = some l → vs = l.map V.str
  | _, _, _, .nil, e => by cases e; rfl
  | _, _, _, .cons (.str x) hs, e => by
    unfold strsD at e
    obtain ⟨l, e1, e2⟩ := Option.map_eq_some_iff.mp e
    subst e2
    rw [strsD_ok hs e1]
    rfl
  | _, _, _, .cons .non _, e => by cases e
  | _, _, _, .cons (.bl _) _, e => by cases e
  | _, _, _, .cons (.int _) _, e => by cases e
  | _, _, _, .cons (.tup _ _) _, e => by cases e
  | _, _, _, .cons (.lst _ _) _, e => by cases e
  | _, _, _, .cons (.fz _ _) _, e => by cases e
  | _, _, _, .cons (.ref _) _, e => by cases e
  | _, _, _, .cons (.opq _) _, e => by cases e
  | _, _, _, .cons (.adr _) _, e => by cases e
  | _, _, _, .cons (.dct _ _ _ _) _, e => by cases e
def dJoin (x y : D) (S : Sto) : Res D := match x with
  | .str a => match dSq S y with
    | some ys => match strsD ys with
      | some l => if (l.map (·.length)).sum + l.length * a.length ≤ big then .ok (.str (Txt.join a l)) S else .bad
      | none => .bad
    | none => .bad
  | _ => .bad
def isStr : D → Bool
  | .str _ => true
  | _ => false
def mJoin (o e : Ed) : Ed := fun Γ S => (o Γ S).bind fun x S1 => if isStr x = true then (e Γ S1).bind fun y S2 => dJoin x y S2 else .bad
theorem tr_join (ho : Tr X B W o mo) (he : Tr X B W e me) (hs : starEach [e] X.env = [(false, eval e X.env)] := by rfl) (hbase : attributeBase o "join" X.env (eval o X.env) = eval o X.env := by rfl) (hline : (apos.endLine == pos.line) = true := by rfl) :
    Tr X B W (.Call (.Attribute o "join" apos) [e] [] pos) (mJoin mo me) := by
  refine imE (pe_join ho he hs hbase hline) fun σ H Q h => ?_
  obtain ⟨r0, F0, Γ, S, oo, g, q⟩ := h
  refine ⟨r0, F0, Γ, S, oo, g, PoE.bindE q fun d S1 w1 v _ t1 o1 rp1 q1 => ?_⟩
  split at q1
  · cases rp1 with
    | str a =>
      refine ⟨⟨a, rfl⟩, w1.r, w1.F, Γ, S1, o1, g.step t1, PoE.bindE q1 fun d2 S2 w2 v2 _ t2 o2 rp2 q2 => ?_⟩
      unfold dJoin at q2
      dsimp only at q2
      cases e1 : dSq S2 d2 with
      | none => rw [e1] at q2; exact q2.elim
      | some ys =>
        rw [e1] at q2
        dsimp only at q2
        cases e2 : strsD ys with
        | none => rw [e2] at q2; exact q2.elim
        | some l =>
          rw [e2] at q2
          dsimp only at q2
          split at q2
          · rename_i hz
            obtain ⟨p, vs, rfl, hp, hvs⟩ := dSq_at o2 rp2 e1
            have e3 := strsD_ok hvs e2
            subst e3
            exact ⟨a, p, l, rfl, rfl, hp.symm, Nat.le_trans hz (by decide), q2.now o2 (.str _)⟩
          · exact q2.elim
    | _ => rename_i hh; cases hh
  · exact q1.elim

/-! ## a written dict's value, a dict display's .get -/
theorem tr_gref {x : Str} {a : Addr} (hm : X.mg x = some (.ref a)) (hg : Gl X x := by rfl) (hd : (x == ("__debug__" : Str)) = false := by decide) : Tr X B W (.Name x pos) (mC (.adr a)) := trC (pe_glob (v := V.ref a) hg hm rfl hd) fun _ _ => .adr a
def dKd (a : Addr) (tab : List (Str × Str)) (x y : D) (S : Sto) : Res D := match x, y with
  | .adr b, .str z => if b = a then match tab.lookup z with
    | some v => .ok (.str v) S
    | none => .bad else .bad
  | _, _ => .bad
theorem so_kd {a : Addr} {tab : List (Str × Str)} (hT : ∀ z v, tab.lookup z = some v → KDct X.kw X.w a z (.str v)) : SoR X.kw (rIxD X.kw X.w) (dKd a tab) := by
  intro W w σ S x y d e Q o rx ry h
  cases rx with
  | adr b =>
    cases ry with
    | str z =>
      unfold dKd at h
      dsimp only at h
      split at h
      · rename_i hb
        subst hb
        cases el : tab.lookup z with
        | none => rw [el] at h; exact h.elim
        | some v => rw [el] at h; exact ⟨b, z, .str v, rfl, rfl, hT z v el, h.now o (.str _)⟩
      · exact h.elim
    | _ => exact h.elim
  | _ => cases ry <;> exact h.elim
theorem tr_kd {a : Addr} {tab : List (Str × Str)} (hT : ∀ z v, tab.lookup z = some v → KDct X.kw X.w a z (.str v)) (ho : Tr X B W o mo) (he : Tr X B W e me) (hs : PlainIx e := by exact fun _ _ => rfl) : Tr X B W (.Subscript o e pos) (mOp (dKd a tab) mo me) :=
  imE (pe_ix ix_kdict ho he hs) fun σ H Q h => so_op (so_kd hT) h

/-- the values of a display with constant keys -/
def TrP (X : Cx) (B : Bs) (W : WX) (pos : Pos) (keys : List (Option Expr)) (values : List Expr) (ks : List Key) (m : Ad) : Prop :=
  ∃ trs, PPs X pos keys values trs ∧ ∀ σ H Q, cA X.kw B W m σ H (fun vs H2 => ks.length = vs.length → Q ((ks.zip vs).map fun kv => (kV kv.1, kv.2)) H2) → tPairs trs σ H Q
theorem tp_nil : TrP X B W pos [] [] [] aNil := ⟨[], pps_nil, fun σ H Q h => by
  obtain ⟨r0, F0, Γ, S, oo, g, q⟩ := h
  exact q _ _ (Step.refl _) oo .nil rfl⟩
theorem tp_cons {k v : Expr} {keys : List (Option Expr)} {values : List Expr} {ks : List Key} {key : Key} {mv : Ed} {m : Ad} (hk : PE X k (tC (kV key))) (hv : Tr X B W v mv) (hr : TrP X B W pos keys values ks m) : TrP X B W pos (some k :: keys) (v :: values) (key :: ks) (aCons mv m) := by
  obtain ⟨trs, h1, h2⟩ := hr
  refine ⟨(tC (kV key), cE X.kw B W mv) :: trs, pps_cons hk hv h1, fun σ H Q h => ?_⟩
  obtain ⟨r0, F0, Γ, S, oo, g, q⟩ := h
  show cE X.kw B W mv σ H _
  refine ⟨r0, F0, Γ, S, oo, g, PoA.bindE q fun d S1 w1 v _ t1 o1 rp1 q1 => ?_⟩
  refine h2 _ _ _ ⟨w1.r, w1.F, Γ, S1, o1, g.step t1, PoA.bindA q1 fun ds S2 w2 vs _ t2 o2 rp2 q2 hl => ?_⟩
  exact q2 w2 (v :: vs) (Step.refl _) o2 (.cons (rp1.up t2.pre t2.sub) rp2) (by rw [List.length_cons, List.length_cons, hl])
def mDct (ks : List Key) (m : Ad) : Ed := fun Γ S => (m Γ S).bind fun ds S1 => if ks.length = ds.length ∧ ks.Nodup ∧ ks.length ≤ 15 then .ok (.dct ks ds) S1 else .bad
theorem mergeK_nodup : ∀ (l acc : List (Key × V)), (l.map (·.1)).Nodup → (∀ k ∈ l.map (·.1), k ∉ acc.map (·.1)) → mergeK acc l = acc ++ l
  | [], acc, _, _ => by show acc = acc ++ []; rw [List.append_nil]
  | p :: l, acc, nd, h => by
    show mergeK (putK acc p.1 p.2) l = _
    have e : putK acc p.1 p.2 = acc ++ [p] := by
      unfold putK
      have hn : (acc.any fun kv => decide (kv.1 = p.1)) = false := by
        rw [List.any_eq_false]
        intro kv hkv he
        exact h p.1 (by simp) (by rw [← of_decide_eq_true he]; exact List.mem_map_of_mem hkv)
      rw [hn]
      rfl
    rw [e, mergeK_nodup l (acc ++ [p]) (List.nodup_cons.mp nd).2 (fun k hk hm => ?_)]
    · simp
    · rw [List.map_append, List.mem_append] at hm
      rcases hm with hm | hm
      · exact h k (by simp only [List.map_cons, List.mem_cons]; exact .inr hk) hm
      · have : k = p.1 := by simpa using hm
        subst this
        exact (List.nodup_cons.mp nd).1 hk
theorem tr_dct {keys : List (Option Expr)} {values : List Expr} {ks : List Key} {m : Ad} (h : TrP X B W pos keys values ks m) (hall : keys.all (·.isSome) = true := by rfl) (hl : keys.length = values.length := by rfl) (h0 : keys ≠ [] := by simp) (h15 : keys.length ≤ 15 := by decide) :
    Tr X B W (.Dict keys values pos) (mDct ks m) := by
  obtain ⟨trs, h1, h2⟩ := h
  refine imE (pe_disp h1 hall hl h0 h15) fun σ H Q h => ?_
  obtain ⟨r0, F0, Γ, S, oo, g, q⟩ := h
  intro p hp
  obtain ⟨o1, st⟩ := oo.side (u := .dK []) (.inl hp)
  have t1 := st hp
  have side : ∀ {w2 : Wd}, Step ⟨r0, F0, upd H p (.dK [])⟩ w2 → w2.H p = some (.dK []) ∧ p ∉ w2.r ∧ w2.F p = none := fun {w2} t2 => by
    have hr : p ∉ r0 := oo.notin hp
    refine ⟨t2.frame p _ upd_same hr (fun ps z => by cases z), fun hm => ?_, ?_⟩
    · rcases t2.newr p hm with z | z
      · exact hr z
      · exact z.not (u := .dK []) upd_same (fun _ z => (nomatch z))
    · cases e : w2.F p with
      | none => rfl
      | some x =>
        rcases t2.newF p (by rw [e]; simp) with z | z | z
        · exact absurd (oo.noF hp) z
        · exact (z.not (u := .dK []) upd_same (fun _ z => (nomatch z))).elim
        · exact absurd z hr
  refine h2 _ _ _ ⟨r0, F0, Γ, S, o1, g.step t1, PoE.bindA (PoE.step t1 q) fun ds S2 w2 vs er t2 o2 rp2 _ hlen => ?_⟩
  have q2 : PoE X.kw W ⟨r0, F0, H⟩ σ (if ks.length = ds.length ∧ ks.Nodup ∧ ks.length ≤ 15 then .ok (.dct ks ds) S2 else .bad) Q := by
    have q' := q
    unfold mDct at q'
    rw [er] at q'
    exact q'
  split at q2
  · rename_i hc
    obtain ⟨hp2, hr2, hF2⟩ := side t2
    refine ⟨hp2, ks.zip vs, rfl, by rw [List.length_zip]; have := hc.2.2; omega, ?_⟩
    have hm : mergeK [] (ks.zip vs) = ks.zip vs := by
      rw [mergeK_nodup _ [] ?_ (fun k _ hk => by simp at hk), List.nil_append]
      rw [List.map_fst_zip (by omega)]
      exact hc.2.1
    rw [hm]
    obtain ⟨o3, t3, s3⟩ := o2.takeF (u := .dK (ks.zip vs)) (t1.trans t2) hp hr2 hF2 (by rw [hp2]; exact lo_dK)
    exact q2 _ _ t3 o3 (.dct upd_same rfl (by omega) (rp2.up (List.prefix_refl _) s3))
  · exact q2.elim
/-- d.get(k, z) -/
def keyOf : D → Option Key
  | .int i => some (Sum.inl i)
  | .str x => some (Sum.inr x)
  | _ => none
def lookK : List Key → List D → Key → Option D
  | k :: ks, d :: ds, j => if k = j then some d else lookK ks ds j
  | _, _, _ => none
def isDct : D → Bool
  | .dct _ _ => true
  | _ => false
def dDg (x y z : D) (S : Sto) : Res D := match x with
  | .dct ks ds => match keyOf y with
    | some k => .ok ((lookK ks ds k).getD z) S
    | none => .bad
  | _ => .bad
def mDget2 (o e f : Ed) : Ed := fun Γ S => (o Γ S).bind fun x S1 => if isDct x = true then (e Γ S1).bind fun y S2 => (f Γ S2).bind fun z S3 => dDg x y z S3 else .bad
theorem lookK_ok {K : Kw} {r : List Addr} {F : Hp} : ∀ {ks : List Key} {vs : List V} {ds : List D} (k : Key), ks.length = vs.length → Reps K r F vs ds → (lookK ks ds k = none ∧ valV (ks.zip vs) k = none) ∨ ∃ d v, lookK ks ds k = some d ∧ valV (ks.zip vs) k = some v ∧ Rep K r F v d
  | [], [], _, _, _, .nil => .inl ⟨rfl, rfl⟩
  | j :: ks, v :: vs, d :: ds, k, hl, .cons h hs => by
    rw [List.zip_cons_cons]
    by_cases hj : j = k
    · right
      exact ⟨d, v, by simp [lookK, hj], valV_pos hj, h⟩
    · rw [valV_neg (show ¬ (j, v).1 = k from hj)]
      have e : lookK (j :: ks) (d :: ds) k = lookK ks ds k := by simp [lookK, hj]
      rw [e]
      exact lookK_ok k (by simpa using hl) hs
  | [], _ :: _, _, _, hl, _ => by simp at hl
  | _ :: _, [], _, _, hl, _ => by simp at hl
theorem tr_dget2 {f : Expr} {mf : Ed} {k : Nat} (hr : Room k X.A) (ho : Tr X B W o mo) (he : Tr X B W e me) (hf : Tr X B W f mf) (m : M2 X o "get" apos e f pos := by exact ⟨rfl, rfl, rfl, rfl⟩) :
    Tr X B W (.Call (.Attribute o "get" apos) [e, f] [] pos) (mDget2 mo me mf) := by
  refine imE (pe_dget2 (by have := hr.un; omega) ho he hf m) fun σ H Q h => ?_
  obtain ⟨r0, F0, Γ, S, oo, g, q⟩ := h
  refine ⟨r0, F0, Γ, S, oo, g, PoE.bindE q fun d S1 w1 v _ t1 o1 rp1 q1 => ?_⟩
  split at q1
  · cases rp1 with
    | @dct a kvs ks vs ds hF ek hl hs =>
      refine ⟨a, rfl, .inl ⟨kvs, .inl (o1.sub _ _ hF)⟩, w1.r, w1.F, Γ, S1, o1, g.step t1, PoE.bindE q1 fun d2 S2 w2 v2 _ t2 o2 rp2 q2 => ?_⟩
      refine ⟨w2.r, w2.F, Γ, S2, o2, (g.step t1).step t2, PoE.bindE q2 fun d3 S3 w3 v3 _ t3 o3 rp3 q3 => ?_⟩
      unfold dDg at q3
      dsimp only at q3
      have fin : ∀ k : Key, v2 = kV k → PoE X.kw W w3 σ (.ok ((lookK ks ds k).getD d3) S3) Q → ∃ oo, DGet w3.H a v2 oo ∧ Q (oo.getD v3) w3.H := fun k ek2 q3 => by
        subst ek2
        have hH : w3.H a = some (.dK kvs) := o3.sub _ _ (t3.sub _ _ (t2.sub _ _ hF))
        refine ⟨valV kvs k, DGet.k hH, ?_⟩
        subst ek
        rcases lookK_ok k hl hs with ⟨e1, e2⟩ | ⟨d', v', e1, e2, rv⟩
        · rw [e1] at q3
          rw [e2]
          exact q3.now o3 rp3
        · rw [e1] at q3
          rw [e2]
          exact q3.now o3 ((rv.up t2.pre t2.sub).up t3.pre t3.sub)
      cases rp2 with
      | int i => exact fin (Sum.inl i) rfl q3
      | str x => exact fin (Sum.inr x) rfl q3
      | _ => exact q3.elim
    | _ => rename_i hh; cases hh
  · exact q1.elim
end
/-! ## isinstance(e, T) -/
def tyD (S : Sto) : D → Option String
  | .non => some "NoneType"
  | .bl _ => some "bool"
  | .int _ => some "int"
  | .str _ => some "str"
  | .opq _ => some "str"
  | .lst _ => some "list"
  | .ref n => match S[n]? with
    | some (.lst _) => some "list"
    | _ => none
  | .dct _ _ => some "dict"
  | _ => none
def mIsi (T : String) (e : Ed) : Ed := fun Γ S => (e Γ S).bind fun x S1 => match tyD S1 x with
  | some t => match kitB t T with
    | some b => .ok (.bl b) S1
    | none => .bad
  | none => .bad
theorem tyD_ok {K : Kw} {w : Wd} {S : Sto} (o : w.Ok K S) {v : V} {d : D} (r : Rep K w.r w.F v d) {t : String} (e : tyD S d = some t) : TyX K w.H v (.type t) := by
  cases r with
  | non => cases e; exact .base .non
  | bl b => cases e; exact .base (.bl b)
  | int i => cases e; exact .base (.int i)
  | str x => cases e; exact .base (.str x)
  | opq h => cases e; exact .base (.str _)
  | lst h hs => cases e; exact .base (.lst (o.sub _ _ h))
  | dct h _ _ _ => cases e; exact .base (.dK (o.sub _ _ h))
  | @ref a n h =>
    unfold tyD at e
    dsimp only at e
    split at e
    · rename_i xs hx
      cases e
      obtain ⟨vs, h1, _⟩ := o.obj n _ a hx h
      exact .base (.lst h1)
    · cases e
  | _ => cases e
theorem tr_isi {X : Cx} {B : Bs} {W : WX} {e : Expr} {p p2 pos : Pos} {me : Ed} {x : Str} {T : String} (he : Tr X B W e me) (hm : X.mg "isinstance" = none) (hmx : X.mg x = none) (hv : bootBuiltins x = some (.type T)) (hg : Gl X "isinstance" := by rfl) (hgx : Gl X x := by rfl) (hn : x ≠ "__name__" := by decide)
    (hd : (x == ("__debug__" : Str)) = false := by decide) (hs : starEach [e, .Name x p2] X.env = (false, eval e X.env) :: starEach [.Name x p2] X.env := by rfl) (hs2 : starEach [.Name x p2] X.env = (false, eval (.Name x p2) X.env) :: starEach [] X.env := by rfl) (hpl : (backTo pos (starEach [.Name x p2] X.env)).any (·.1) = false := by rfl) :
    Tr X B W (.Call (.Name "isinstance" p) [e, .Name x p2] [] pos) (mIsi T me) := by
  refine imE (pe_callB call_isi hg hm (by decide +kernel) (pa_cons he (pa_cons (pe_bltn (v := V.ty T) hgx hmx hv rfl hn hd) pa_nil hs2) hs) (by decide) (by decide) hs hpl) fun σ H Q h => ?_
  obtain ⟨r0, F0, Γ, S, oo, g, q⟩ := h
  refine ⟨r0, F0, Γ, S, oo, g, PoE.bindE q fun d S1 w1 v _ t1 o1 rp1 q1 => ?_⟩
  cases e1 : tyD S1 d with
  | none => rw [e1] at q1; exact q1.elim
  | some t =>
    rw [e1] at q1
    dsimp only at q1
    cases e2 : kitB t T with
    | none => rw [e2] at q1; exact q1.elim
    | some b =>
      rw [e2] at q1
      exact ⟨v, .ty T, .type t, .type T, b, rfl, .ty T, tyD_ok o1 rp1 e1, kit_ty e2, q1.now o1 (.bl b)⟩
end Fx
end

section
set_option Elab.async false
set_option linter.all false
set_option maxRecDepth 100000
set_option maxHeartbeats 2000000
namespace Fx
open PySem PySem.Spec PyProof.Rows L2
variable [Nam]
def blkB (N : List Str) (sc scope : Scope) (own : List (Str × Nat)) : Bool :=
  decide (scope.kind = .function) && scope.names.all (fun y => decide (scope.names.lookup y.1 = some y.2)) && own.all (fun p => decide (N[p.2]? = some p.1)) &&
  scope.names.all (fun y => !decide (y.2 = .free) || decide (sc.names.lookup y.1 = some .cell) || decide (sc.names.lookup y.1 = some .free)) &&
  scope.names.all (fun y => !(decide (y.2 = .local) || decide (y.2 = .cell)) || decide (y.1 ∈ own.map (·.1)) || decide (y.1 ∉ N))
theorem blk_of {X : Cx} {N : List Str} {sc scope : Scope} {own : List (Str × Nat)} (hN : X.N = N) (hs : X.env.scope = sc) (h : blkB N sc scope own = true) : BlkOk X.N X.env.scope scope own := by
  rw [hN, hs]
  unfold blkB at h
  simp only [Bool.and_eq_true, decide_eq_true_eq, List.all_eq_true, Bool.or_eq_true, Bool.not_eq_true', decide_eq_false_iff_not, Bool.or_eq_false_iff] at h
  obtain ⟨⟨⟨⟨h1, h2⟩, h3⟩, h4⟩, h5⟩ := h
  refine ⟨h1, h2, h3, fun y hy e => ?_, fun y hy e => ?_⟩
  · rcases h4 y hy with (z | z) | z
    · exact absurd e z
    · exact .inl z
    · exact .inr z
  · rcases h5 y hy with (z | z) | z
    · rcases e with e | e
      · exact absurd e z.1
      · exact absurd e z.2
    · exact .inl z
    · exact .inr z
section
variable {X : Cx} {B : Bs} {W : WX} {tg elt iter : Expr} {ifs : List Expr} {scope : Scope} {src : Id'} {cnd : Bd} {me : Ed} {pos : Pos}
theorem tr_lcV (f : Bool) (i : Nat) (own : List (Str × Nat)) {vs : List Nat} (kp : ∀ i, Keeps B i) (hc : X.calm = true) (hN : X.N.Nodup) (hi : TrI X B W tg iter src) (ok : BlkOk X.N X.env.scope scope own) (hvs : own.map (·.2) = vs) (hm : i ∈ vs)
    (hg : ∀ (s : Shared) (H : Hp) (C : Addr) (cl : List (Str × Addr)) (fp : List Addr), PG (X.blk s H scope (compEnvC scope cl C X.env) fp) tg (gName i))
    (ht : ∀ (s : Shared) (H : Hp) (C : Addr) (cl : List (Str × Addr)) (fp : List Addr), TrT (X.blk s H scope (compEnvC scope cl C X.env) fp) B ifs cnd)
    (he : ∀ (s : Shared) (H : Hp) (C : Addr) (cl : List (Str × Addr)) (fp : List Addr), Tr (X.blk s H scope (compEnvC scope cl C X.env) fp) B W0 elt me) (hs : ∀ x, foldedSetIterable iter X.env x = pure x := by intro _; rfl) :
    Tr X B W (.ListComp elt [⟨tg, iter, ifs, 0⟩] scope pos) (mLc f vs src (gN i) cnd me) := by
  subst hvs
  exact tr_lc f i own kp hc hN hi ok hm hg ht he hs
theorem tr_lcTV (f : Bool) (is : List Nat) (own : List (Str × Nat)) {vs : List Nat} (kp : ∀ i, Keeps B i) (hc : X.calm = true) (hN : X.N.Nodup) (hi : TrI X B W tg iter src) (ok : BlkOk X.N X.env.scope scope own) (hvs : own.map (·.2) = vs) (hm : ∀ i ∈ is, i ∈ vs)
    (hg : ∀ (s : Shared) (H : Hp) (C : Addr) (cl : List (Str × Addr)) (fp : List Addr), PG (X.blk s H scope (compEnvC scope cl C X.env) fp) tg (gTup X.kw is.length (gSeq is)))
    (ht : ∀ (s : Shared) (H : Hp) (C : Addr) (cl : List (Str × Addr)) (fp : List Addr), TrT (X.blk s H scope (compEnvC scope cl C X.env) fp) B ifs cnd)
    (he : ∀ (s : Shared) (H : Hp) (C : Addr) (cl : List (Str × Addr)) (fp : List Addr), Tr (X.blk s H scope (compEnvC scope cl C X.env) fp) B W0 elt me) (hs : ∀ x, foldedSetIterable iter X.env x = pure x := by intro _; rfl) :
    Tr X B W (.ListComp elt [⟨tg, iter, ifs, 0⟩] scope pos) (mLc f vs src (gT is) cnd me) := by
  subst hvs
  exact tr_lcT f is own kp hc hN hi ok hm hg ht he hs
theorem ts_setLcV (f : Bool) (i j : Nat) {y : Str} {py spos : Pos} (own : List (Str × Nat)) {vs : List Nat} (kp : ∀ i, Keeps B i) (hc : X.calm = true) (hN : X.N.Nodup) (hy : X.N[i]? = some y) (hyl : X.env.scope.names.lookup y = some .local)
    (hsw : swapsWith (.ListComp elt [⟨tg, iter, ifs, 0⟩] scope pos) (some (.Name y py)) spos.line X.env = pure true) (hi : TrI X B W tg iter src) (ok : BlkOk X.N X.env.scope scope own) (hvs : own.map (·.2) = vs) (hm : j ∈ vs)
    (hg : ∀ (s : Shared) (H : Hp) (C : Addr) (cl : List (Str × Addr)) (fp : List Addr), PG (X.blk s H scope (compEnvC scope cl C X.env) fp) tg (gName j))
    (ht : ∀ (s : Shared) (H : Hp) (C : Addr) (cl : List (Str × Addr)) (fp : List Addr), TrT (X.blk s H scope (compEnvC scope cl C X.env) fp) B ifs cnd)
    (he : ∀ (s : Shared) (H : Hp) (C : Addr) (cl : List (Str × Addr)) (fp : List Addr), Tr (X.blk s H scope (compEnvC scope cl C X.env) fp) B W0 elt me) (hs : ∀ x, foldedSetIterable iter X.env x = pure x := by intro _; rfl) :
    TrS X B W (.Assign [.Name y py] (.ListComp elt [⟨tg, iter, ifs, 0⟩] scope pos) spos) (sAsg (gN i) (mLc f vs src (gN j) cnd me)) := by
  subst hvs
  exact ts_setLc f i j own kp hc hN hy hyl hsw hi ok hm hg ht he hs
end
section
variable {X : Cx} {B : Bs} {W : WX} {o e : Expr} {es : List Expr} {p apos pos : Pos} {ma : Ed} {mA : Ad} {n : Nat}
theorem tr_callV {k : Nat} {f : Addr} {fd : FuncData} {ps : List Str} {fn : Fn} {x : Str} (F : FnOk X.prog X.w X.kw X.mg X.base (L2.CX X.prog X.w) k f fd ps (SpF X.kw n fn)) (hr : Room k X.A) (hm : X.mg x = some (.ref f)) (hk : PySem.W.keepIn X.kw (.ref f) = true)
    (hb : Binds X.kw fd ps []) (tk : Takes X W) (ha : TrA X B W (e :: es) mA) (hn : ps.length = n := by rfl) (hg : Gl X x := by rfl) (hdb : (x == ("__debug__" : Str)) = false := by decide) (he : starEach (e :: es) X.env = (false, eval e X.env) :: starEach es X.env := by rfl)
    (hpl : (backTo pos (starEach es X.env)).any (·.1) = false := by rfl) : Tr X B W (.Call (.Name x p) (e :: es) [] pos) (mCall n fn mA) := by
  subst hn
  exact tr_call F hr hm hk hb tk ha hg hdb he hpl
theorem tr_call0V {k : Nat} {f : Addr} {fd : FuncData} {ps : List Str} {fn : Fn} {x : Str} (F : FnOk X.prog X.w X.kw X.mg X.base (L2.CX X.prog X.w) k f fd ps (SpF X.kw n fn)) (hr : Room k X.A) (hm : X.mg x = some (.ref f)) (hk : PySem.W.keepIn X.kw (.ref f) = true)
    (hb : Binds X.kw fd ps []) (tk : Takes X W) (hn : ps.length = n := by rfl) (hg : Gl X x := by rfl) (hdb : (x == ("__debug__" : Str)) = false := by decide) : Tr X B W (.Call (.Name x p) [] [] pos) (mCall n fn aNil) := by
  subst hn
  exact tr_call0 F hr hm hk hb tk hg hdb
theorem tr_methV {pl : Sem Bool} {k : Nat} {f : Addr} {fd : FuncData} {ps : List Str} {fn : Fn} {m : Str} {G : Addr → Bool} (F : FnOk X.prog X.w X.kw X.mg X.base (L2.CX X.prog X.w) k f fd ps (SpF X.kw n fn)) (hr : Room k X.A) (hM : MethF X.kw G m f)
    (hb : Binds X.kw fd ps []) (tk : Takes X W) (ho : Tr X B W o ma) (ha : TrA X B W (e :: es) mA) (hn : ps.length = n := by rfl)
    (hst : starEach (e :: es) X.env = (false, eval e X.env) :: starEach es X.env := by rfl) (hpl : (backTo pos (starEach es X.env)).any (·.1) = false := by rfl)
    (ht : eval (.Call (.Attribute o m apos) (e :: es) [] pos) X.env = (do
      let ov ← eval o X.env
      standAt apos.atName
      let (f, first) ← holding [ov] (getMethod ov m pl)
      callWith pos f first (backTo pos (starEach (e :: es) X.env)) (backToKw pos (keywordEach [] X.env))) := by rfl) :
    Tr X B W (.Call (.Attribute o m apos) (e :: es) [] pos) (mMeth G m n fn ma mA) := by
  subst hn
  exact tr_meth F hr hM hb tk ho ha hst hpl ht
theorem tr_meth0V {pl : Sem Bool} {k : Nat} {f : Addr} {fd : FuncData} {ps : List Str} {fn : Fn} {m : Str} {G : Addr → Bool} (F : FnOk X.prog X.w X.kw X.mg X.base (L2.CX X.prog X.w) k f fd ps (SpF X.kw n fn)) (hr : Room k X.A) (hM : MethF X.kw G m f)
    (hb : Binds X.kw fd ps []) (tk : Takes X W) (ho : Tr X B W o ma) (hn : ps.length = n := by rfl)
    (ht : eval (.Call (.Attribute o m apos) [] [] pos) X.env = (do
      let ov ← eval o X.env
      standAt apos.atName
      let (f, first) ← holding [ov] (getMethod ov m pl)
      callWith pos f first (backTo pos (starEach [] X.env)) (backToKw pos (keywordEach [] X.env))) := by rfl) :
    Tr X B W (.Call (.Attribute o m apos) [] [] pos) (mMeth G m n fn ma aNil) := by
  subst hn
  exact tr_meth0 F hr hM hb tk ho ht
theorem tr_makeV {k : Nat} {f C : Addr} {fd : FuncData} {ps : List Str} {fn : Fn} {x : Str} (M : Mk X.kw C f) (F : FnOk X.prog X.w X.kw X.mg X.base (L2.CX X.prog X.w) k f fd ps (SpF X.kw n fn)) (hr : Room (k + 1) X.A) (hm : X.mg x = some (.ref C))
    (hb : Binds X.kw fd ps []) (tk : Takes X W) (ha : TrA X B W (e :: es) mA) (hn : ps.length = n := by rfl) (hg : Gl X x := by rfl) (hdb : (x == ("__debug__" : Str)) = false := by decide) (he : starEach (e :: es) X.env = (false, eval e X.env) :: starEach es X.env := by rfl)
    (hpl : (backTo pos (starEach es X.env)).any (·.1) = false := by rfl) : Tr X B W (.Call (.Name x p) (e :: es) [] pos) (mMake C n fn mA) := by
  subst hn
  exact tr_make M F hr hm hb tk ha hg hdb he hpl
end
end Fx
namespace Fx
open PySem PySem.Spec PyProof.Rows L2
variable [Nam]
def spStart (K : Kw) (n : Nat) : Sp := fun vs H Q E => ∃ (a : Addr) (ns : List Int), vs = [V.ref a] ∧ SqL K H a (ns.map V.int) ∧ ns.length ≤ n ∧ ∀ H', Q (.bl true) H'
theorem reps_ints {K : Kw} {r : List Addr} {F : Hp} : ∀ ns : List Int, Reps K r F (ns.map V.int) (ns.map D.int)
  | [] => .nil
  | n :: ns => .cons (.int n) (reps_ints ns)
/-- what is known but the tables -/
def noTb (H : Hp) : Hp := fun a => match H a with
  | some (.tbl _) => none
  | o => o
theorem noTb_sub (H : Hp) : SubH (noTb H) H := fun a o e => by
  unfold noTb at e
  split at e
  · cases e
  · exact e
theorem noTb_at {H : Hp} {a : Addr} {o : HO} (e : H a = some o) (h : ∀ ps, o ≠ .tbl ps) : noTb H a = some o := by
  unfold noTb
  split
  · rename_i ps q
    exact absurd (Option.some.inj (e.symm.trans q)) (h ps)
  · exact e
theorem noTb_no (H : Hp) (a : Addr) (ps : Array Value) : noTb H a ≠ some (.tbl ps) := fun e => by
  unfold noTb at e
  split at e
  · cases e
  · rename_i h
    exact h ps e
theorem noTb_sq {K : PySem.W.Frag} {H : Hp} {a : Addr} {xs : List V} (h : SqL K H a xs) : SqL K (noTb H) a xs := by
  refine h.imp (fun h => ?_) id
  rcases h with h | ⟨o, h⟩
  · exact .inl (noTb_at h fun _ z => (nomatch z))
  · exact .inr ⟨o, noTb_at h fun _ z => (nomatch z)⟩
theorem start_of {K : Kw} {n : Nat} {f : Fn} {vs : List V} {H : Hp} {Q : VK} {E : XK} (h : spStart K n vs H Q E) (k : ∀ ns : List Int, ns.length ≤ n → ∃ S, f [.fz (ns.map D.int)] [] = .ok (.bl true) S) : SpF K 1 f vs H Q E := by
  obtain ⟨a, ns, rfl, hS, hl, q⟩ := h
  obtain ⟨S, e⟩ := k ns hl
  refine ⟨[], noTb H, [], [.fz (ns.map D.int)], ⟨noTb_sub H, rfl, List.nodup_nil, fun n o a e _ => by simp at e, fun n o a e _ _ => by simp at e, fun n a e => by simp at e, noTb_no H⟩, .cons (.fz (noTb_sq hS) (reps_ints ns)) .nil, rfl, ?_⟩
  rw [e]
  intro w' v t o r
  cases r with
  | bl b => exact q _
theorem cx_no {P : Program} {w : World} {outer : List Env} {H : Hp} {s : Shared} {e : Value} {s' : Shared} (h : L2.CX P w outer H s (fun _ _ _ => False) e s') : False := by
  obtain ⟨_, _, _, _, _, _, _, _, _, _, _, _, z⟩ := h
  exact z
end Fx
end

section
set_option Elab.async false
set_option linter.all false
set_option maxRecDepth 100000
set_option maxHeartbeats 2000000
/-! dicts whose keys are (nested) tuples -/
namespace Fx
open PySem PySem.Spec PyProof.Rows L2
variable [Nam]

/-! ### entries -/
abbrev NEnt := NestedKey × Addr × V
def atN (l : List NEnt) (k : NestedKey) : Option V := (l.find? fun x => decide (x.1 = k)).map (·.2.2)
def putN (l : List NEnt) (k : NestedKey) (b : Addr) (v : V) : List NEnt := if (atN l k).isSome = true then l.map (fun x => if x.1 = k then (x.1, x.2.1, v) else x) else l ++ [(k, b, v)]
abbrev NRel : List NEnt → List (NestedKey × Addr × Value) → Prop := Paired fun p q => p.1 = q.1 ∧ p.2.1 = q.2.1 ∧ RelV p.2.2 q.2.2
theorem NRel.val {l : List NEnt} {xs : List (NestedKey × Addr × Value)} (r : NRel l xs) (k : NestedKey) : RelO (atN l k) ((atKey xs k).map (·.2)) := by
  induction r with
  | nil => exact True.intro
  | @cons p q ps qs h _ ih =>
    unfold atN atKey at ih ⊢
    by_cases e : p.1 = k
    · have e' : q.1 = k := h.1 ▸ e
      simp only [List.find?_cons, decide_eq_true e, decide_eq_true e', Option.map_some]
      exact h.2.2
    · have e' : ¬ q.1 = k := fun z => e (h.1.trans z)
      simp only [List.find?_cons, decide_eq_false e, decide_eq_false e']
      exact ih
theorem NRel.put {l : List NEnt} {xs : List (NestedKey × Addr × Value)} (r : NRel l xs) (k : NestedKey) (b : Addr) {v : V} {u : Value} (rv : RelV v u) : NRel (putN l k b v) (storedH xs k b u) := by
  have hs : (atN l k).isSome = (atKey xs k).isSome := by
    have := (r.val k).isSome_eq
    rw [this, Option.isSome_map]
  unfold putN storedH
  rw [hs]
  split
  · clear hs
    rename_i hh
    clear hh
    induction r with
    | nil => exact .nil
    | @cons p q ps qs h _ ih =>
      rw [List.map_cons, List.map_cons]
      refine .cons ?_ ih
      unfold putAt
      by_cases e : p.1 = k
      · rw [if_pos e, if_pos (h.1 ▸ e)]; exact ⟨h.1, h.2.1, rv⟩
      · rw [if_neg e, if_neg (fun z => e (h.1.trans z))]; exact h
  · exact Paired.snoc r ⟨rfl, rfl, rv⟩
theorem putN_len (l : List NEnt) (k : NestedKey) (b : Addr) (v : V) : (putN l k b v).length ≤ l.length + 1 := by
  unfold putN
  split
  · rw [List.length_map]; omega
  · rw [List.length_append]; exact Nat.le_refl _
/-! ### keys in the abstract heap -/
mutual
inductive NdV (K : PySem.W.Frag) (H : Hp) : V → NestedKey → Prop
  | non : NdV K H .non .none
  | bl (b : Bool) : NdV K H (.bl b) (.num (if b = true then 1 else 0))
  | int (i : Int) : NdV K H (.int i) (.num i)
  | str (x : Str) : NdV K H (.str x) (.text x)
  | tup {a : Addr} {vs : List V} {ks : List NestedKey} : SqT K H a vs → NdVs K H vs ks → NdV K H (.ref a) (.tup ks)
inductive NdVs (K : PySem.W.Frag) (H : Hp) : List V → List NestedKey → Prop
  | nil : NdVs K H [] []
  | cons {v : V} {vs : List V} {k : NestedKey} {ks : List NestedKey} : NdV K H v k → NdVs K H vs ks → NdVs K H (v :: vs) (k :: ks)
end
section
variable {X : Cx} {pins : List (Addr × Obj)} {σ : L2.St} {H : Hp} {s : Shared}
mutual
theorem NdV.is (I : Inv X pins σ H s) : ∀ {v : V} {k : NestedKey} {u : Value}, NdV X.K H v k → RelV v u → NestedIs s.heap k u
  | _, _, _, .non, r => by cases (show _ = Value.none from r); exact .none
  | _, _, _, .bl b, r => by cases (show _ = Value.bool b from r); exact .bool rfl
  | _, _, _, .int i, r => by obtain ⟨t, e⟩ := (show ∃ t, _ = Value.int i t from r); cases e; exact .int _ _
  | _, _, _, .str x, r => by obtain ⟨t, e⟩ := (show ∃ t, _ = Value.str x t from r); cases e; exact .text _ _
  | _, _, _, .tup (a := a) h hs, r => by
    cases (show _ = Value.ref a from r)
    obtain ⟨its, rv, ⟨o, ho, hcl, n, hd⟩, _⟩ := I.tuple h
    exact .tup ho hcl hd (NdVs.is I hs rv)
theorem NdVs.is (I : Inv X pins σ H s) : ∀ {vs : List V} {ks : List NestedKey} {us : List Value}, NdVs X.K H vs ks → Vals vs us → NestedAll s.heap ks us
  | _, _, _, .nil, .nil => .nil
  | _, _, _, .cons h hs, .cons r rs => .cons (NdV.is I h r) (NdVs.is I hs rs)
end
/-- the tuple at b is the key k -/
def KeyAt (K : PySem.W.Frag) (H : Hp) (b : Addr) (k : NestedKey) : Prop := NdV K H (.ref b) k ∧ k.depth ≤ 8
theorem KeyAt.is (I : Inv X pins σ H s) {b : Addr} {k : NestedKey} (h : KeyAt X.K H b k) : (nestedKind X.prog X.w).is s.heap k b := ⟨h.1.is I rfl, h.2⟩
/-- at a stands a dict of the entries l, its keys are there -/
def NdAt (K : Kw) (H : Hp) (a : Addr) (l : List NEnt) : Prop := Rd H a (NdO K.w a l) ∧ ∀ x ∈ l, KeyAt K.K H x.2.1 x.1
theorem NdAt.get (I : Inv X pins σ H s) {a : Addr} {l : List NEnt} (h : NdAt X.kw H a l) : l.length ≤ sizeLine ∧ (a == sysModules) = false ∧ ∃ xs, NRel l xs ∧ s.heap.DictOfH (nestedKind X.prog X.w) a xs := by
  obtain ⟨⟨h1, h2, xs, h3, h4, o, es, ep, h5, h6, h7, h8⟩, _, _⟩ := (show ObjOk X.prog X.w H s.heap a (NdO X.w a l) from h.1.ok I.hok)
  refine ⟨h1, h2, xs, h3, o, es, ep, h5, h6, h7, h8, fun x hx => ?_, h4⟩
  have all : ∀ {l : List NEnt} {xs : List (NestedKey × Addr × Value)}, NRel l xs → (∀ x ∈ l, KeyAt X.K H x.2.1 x.1) → ∀ x ∈ xs, (nestedKind X.prog X.w).is s.heap x.1 x.2.1 := by
    intro l xs r
    induction r with
    | nil => intro _ x hx; exact nomatch hx
    | @cons p q ps qs hq _ ih =>
      intro hk x hx
      rcases List.mem_cons.mp hx with rfl | hx
      · have := (hk p List.mem_cons_self).is I
        rw [hq.1, hq.2.1] at this
        exact this
      · exact ih (fun y hy => hk y (List.mem_cons_of_mem _ hy)) x hx
  exact all h3 h.2 x hx
theorem room8 {A : Around} {k : Nat} (hr : Room k A) : A.units + 9 < cLine := Nat.lt_of_le_of_lt (by omega) hr.units
/-! ### reading -/
variable {a b : Addr} {l : List NEnt} {k : NestedKey} {A : Around} {E : Value → Shared → Prop}
theorem n_getItem {v : V} {Q : Value → Shared → Prop} (hu : A.units + 9 < cLine) (I : Inv X pins σ H s) (h : NdAt X.kw H a l) (hk : KeyAt X.K H b k) (hv : atN l k = some v) (q : ∀ w' s', Inv X pins σ H s' → RelV v w' → Q w' s') :
    wpAny (model X.prog X.w) A (getItem (.ref a) (.ref b)) Q E s := by
  obtain ⟨z, hd, xs, rel, dd⟩ := h.get I
  obtain ⟨w', hw, rw'⟩ := RelO.some_of (v := v) (o := (atKey xs k).map (·.2)) (by rw [← hv]; exact rel.val k)
  obtain ⟨p, hp, hp2⟩ := Option.map_eq_some_iff.mp hw
  refine wpAny_getItem_heap (show A.units + 1 + 8 < cLine by omega) (hk.is I) dd hp ?_
  rw [hp2]
  exact q w' _ (I.tok _) rw'
theorem n_in {Q : Value → Shared → Prop} (hu : A.units + 9 < cLine) (I : Inv X pins σ H s) (h : NdAt X.kw H a l) (hk : KeyAt X.K H b k) (q : ∀ s', Inv X pins σ H s' → Q (.bool (atN l k).isSome) s') :
    wpAny (model X.prog X.w) A (compareOp .In (.ref b) (.ref a)) Q E s := by
  obtain ⟨z, hd, xs, rel, dd⟩ := h.get I
  refine wpAny_in_heap (show A.units + 1 + 8 < cLine by omega) (hk.is I) hd dd ?_
  have e := (rel.val k).isSome_eq
  rw [Option.isSome_map] at e
  rw [← e]
  exact q _ (I.tok _)
theorem n_notIn {Q : Value → Shared → Prop} (hu : A.units + 9 < cLine) (I : Inv X pins σ H s) (h : NdAt X.kw H a l) (hk : KeyAt X.K H b k) (q : ∀ s', Inv X pins σ H s' → Q (.bool (!(atN l k).isSome)) s') :
    wpAny (model X.prog X.w) A (compareOp .NotIn (.ref b) (.ref a)) Q E s := by
  obtain ⟨z, hd, xs, rel, dd⟩ := h.get I
  refine wpAny_notIn_heap (show A.units + 1 + 8 < cLine by omega) (hk.is I) hd dd ?_
  have e := (rel.val k).isSome_eq
  rw [Option.isSome_map] at e
  rw [← e]
  exact q _ (I.tok _)
theorem n_get2 {d : V} {r : Value} {Q : Value → Shared → Prop} (hu : A.units + 9 < cLine) (I : Inv X pins σ H s) (h : NdAt X.kw H a l) (hk : KeyAt X.K H b k) (rd : RelV d r) (q : ∀ w' s', Inv X pins σ H s' → RelV ((atN l k).getD d) w' → Q w' s') :
    wpAny (model X.prog X.w) A (call (.builtin "dict.get") [.ref a, .ref b, r]) Q E s := by
  obtain ⟨z, hd, xs, rel, dd⟩ := h.get I
  refine call_meetsIn PySem.F.slot_dict_get dd.typeIs PySem.F.entry_dict_get (PySem.F.args_dict_get_3 _ _ _) (meetsH_dict_get_default (nestedKind X.prog X.w) a b hd r) ⟨(show A.units + 1 + 8 < cLine by omega), k, xs, hk.is I, dd, q _ _ (I.tok _) ?_⟩
  exact (rel.val k).getD rd
theorem n_len {Q : Value → Shared → Prop} (I : Inv X pins σ H s) (h : NdAt X.kw H a l) (q : ∀ t s', Inv X pins σ H s' → Q (.int l.length t) s') : wpAny (model X.prog X.w) A (call (.builtin "len") [.ref a]) Q E s := by
  obtain ⟨z, hd, xs, rel, dd⟩ := h.get I
  have hl : l.length = xs.length := Paired.length rel
  have kd : s.heap.DictKeyed (nestedKind X.prog X.w) a (pairsH xs) := ⟨xs, dd, rfl⟩
  have hp : (pairsH xs).length = l.length := by rw [pairsH_length, hl]
  refine PyProof.Rows.call_len_slot (n := ((pairsH xs).length : Nat)) kd.typeIs PySem.F.slot_dict_len (fun Q' hq => len_keyed hd kd hq) (by omega) (by rw [hp]; rw [sizeLine_eq] at z; omega) ?_
  rw [hp]
  exact q _ _ (I.tok _)
/-! ### writing -/
/-- the dict at a is written -/
theorem nd_write {h' : Heap} {t' : Nat} {l' : List NEnt} {xs' : List (NestedKey × Addr × Value)} (I : Inv X pins σ H s) (e : H a = some (NdO X.w a l)) (hs : Heap.SameBut a s.heap h') (hd : (a == sysModules) = false) (hl : l'.length ≤ sizeLine) (rel : NRel l' xs') (dd : h'.DictOfH (nestedKind X.prog X.w) a xs') :
    Inv X pins σ (upd H a (NdO X.w a l')) { s with heap := h', toks := t' } := by
  obtain ⟨o, es, ep, h1, h2, h3, h4, h5, h6⟩ := dd
  refine d_write I (by rw [e]; exact True.intro) hs ⟨o, h1⟩ ⟨⟨hl, hd, xs', rel, h6, o, es, ep, h1, h2, h3, h4⟩, ⟨o, h1⟩, fun g1 g2 p st => ?_⟩
  obtain ⟨q1, q2, xs, q3, q4, o, es, ep, q5, q6⟩ := p
  exact ⟨q1, q2, xs, q3, q4, o, es, ep, st _ q5, q6⟩
theorem n_setItem {v : V} {r : Value} {Q : Unit → Shared → Prop} (hu : A.units + 9 < cLine) (I : Inv X pins σ H s) (e : H a = some (NdO X.w a l)) (hks : ∀ x ∈ l, KeyAt X.K H x.2.1 x.1) (hk : KeyAt X.K H b k) (hz : l.length < sizeLine) (rv : RelV v r)
    (q : ∀ s', Inv X pins σ (upd H a (NdO X.w a (putN l k b v))) s' → Q () s') : wpAny (model X.prog X.w) A (setItem (.ref a) (.ref b) r) Q E s := by
  obtain ⟨z, hd, xs, rel, dd⟩ := NdAt.get I ⟨.inl e, hks⟩
  have hx : xs.length ≤ sizeLine := by rw [← Paired.length rel]; exact z
  refine wpAny_setItem_heap (hsz := hx) (show A.units + 1 + 8 < cLine by omega) (hk.is I) dd fun h' dd' hs => q _ ?_
  exact nd_write I e hs hd (by have := putN_len l k b v; omega) (rel.put k b rv) dd'
/-- .. by a comprehension -/
theorem n_dictSet {v : V} {r : Value} {Q : Unit → Shared → Prop} (hu : A.units + 9 < cLine) (I : Inv X pins σ H s) (e : H a = some (NdO X.w a l)) (hks : ∀ x ∈ l, KeyAt X.K H x.2.1 x.1) (hk : KeyAt X.K H b k) (hz : l.length < sizeLine) (rv : RelV v r)
    (q : ∀ s', Inv X pins σ (upd H a (NdO X.w a (putN l k b v))) s' → Q () s') : wpAny (model X.prog X.w) A (dictSet a (.ref b) r) Q E s := by
  obtain ⟨z, hd, xs, rel, dd⟩ := NdAt.get I ⟨.inl e, hks⟩
  have hx : xs.length ≤ sizeLine := by rw [← Paired.length rel]; exact z
  refine wpAny_dictSet_heap (hsz := hx) (show A.units + 8 < cLine by omega) (hk.is I) dd fun h' dd' hs => q _ ?_
  exact nd_write I e hs hd (by have := putN_len l k b v; omega) (rel.put k b rv) dd'
theorem nd_empty {P : Program} {w : World} {H : Hp} (h : Heap) (hb : sysModules < h.objs.size) : ObjOk P w H (h.push { cls := .type "dict", data := .dict #[] }) h.objs.size (NdO w h.objs.size []) :=
  ⟨⟨Nat.zero_le _, beq_eq_false_iff_ne.mpr (Ne.symm (Nat.ne_of_lt hb)), [], .nil, List.nodup_nil, _, #[], 0, Heap.get?_push_size _ rfl, ⟨rfl, rfl, rfl⟩, rfl, rfl⟩, ⟨_, Heap.get?_push_size _ rfl⟩, fun g1 g2 p st => by
    obtain ⟨q1, q2, xs, q3, q4, o, es, ep, q5, q6⟩ := p
    exact ⟨q1, q2, xs, q3, q4, o, es, ep, st _ q5, q6⟩⟩
end
end Fx
end

section
set_option Elab.async false
set_option linter.all false
set_option maxRecDepth 100000
set_option maxHeartbeats 2000000
/-! dicts with tuples as keys: their meaning -/
namespace Fx
open PySem PySem.Spec PyProof.Rows L2
variable [Nam]
section
variable {K : Kw} {B : Bs} {W : WX} {w w' : Wd} {σ : L2.St} {Γ : En} {S : Sto}
mutual
theorem rep_key {K : Kw} {r : List Addr} {F H : Hp} (s : SubH F H) : ∀ {v : V} {d : D} {k : NestedKey}, Rep K r F v d → keyN d = some k → NdV K.K H v k
  | _, _, _, .non, e => by cases e; exact .non
  | _, _, _, .bl b, e => by cases e; exact .bl b
  | _, _, _, .int i, e => by cases e; exact .int i
  | _, _, _, .str x, e => by cases e; exact .str x
  | _, _, k, .tup (ds := ds) h hs, e => by
    rw [keyN] at e
    cases e1 : keysN ds with
    | none => rw [e1] at e; cases e
    | some ks =>
      rw [e1] at e
      cases e
      exact .tup (sqT_sub s h) (reps_key s hs e1)
  | _, _, _, .lst _ _, e => by cases e
  | _, _, _, .fz _ _, e => by cases e
  | _, _, _, .ref _, e => by cases e
  | _, _, _, .opq _, e => by cases e
  | _, _, _, .adr _, e => by cases e
  | _, _, _, .dct _ _ _ _, e => by cases e
theorem reps_key {K : Kw} {r : List Addr} {F H : Hp} (s : SubH F H) : ∀ {vs : List V} {ds : List D} {ks : List NestedKey}, Reps K r F vs ds → keysN ds = some ks → NdVs K.K H vs ks
  | _, _, _, .nil, e => by cases e; exact .nil
  | _, d :: ds, _, .cons h hs, e => by
    rw [keysN] at e
    cases e1 : keyN d with
    | none => rw [e1] at e; cases e
    | some k =>
      cases e2 : keysN ds with
      | none => rw [e1, e2] at e; cases e
      | some ks =>
        rw [e1, e2] at e
        cases e
        exact .cons (rep_key s h e1) (reps_key s hs e2)
end
theorem rep_keyT {r : List Addr} {F H : Hp} (s : SubH F H) {v : V} {d : D} {k : NestedKey} (h : Rep K r F v d) (e : keyT d = some k) : ∃ b, v = .ref b ∧ KeyAt K.K H b k := by
  cases h with
  | @tup a vs ds h hs =>
    unfold keyT at e
    dsimp only at e
    cases e1 : keyN (.tup ds) with
    | none => rw [e1] at e; cases e
    | some k' =>
      rw [e1] at e
      dsimp only at e
      split at e
      · rename_i hd
        cases e
        exact ⟨a, rfl, rep_key s (.tup h hs) e1, hd⟩
      · cases e
  | _ => cases e
/-- what a dict holds -/
def atD (kvs : List (D × D)) (k : NestedKey) : Option D := (kvs.find? fun q => decide (keyT q.1 = some k)).map (·.2)
def putKD (kvs : List (D × D)) (kd : D) (k : NestedKey) (v : D) : List (D × D) := if (atD kvs k).isSome = true then kvs.map (fun q => if keyT q.1 = some k then (q.1, v) else q) else kvs ++ [(kd, v)]
def OptR (R : V → D → Prop) : Option V → Option D → Prop
  | none, none => True
  | some v, some d => R v d
  | _, _ => False
theorem RepK.val {r : List Addr} {F : Hp} {l : List NEnt} {kvs : List (D × D)} (h : RepK K r F l kvs) (k : NestedKey) : OptR (Rep K r F) (atN l k) (atD kvs k) := by
  unfold RepK at h
  induction h with
  | nil => exact True.intro
  | @cons p q ps qs h _ ih =>
    unfold atN atD at ih ⊢
    by_cases e : p.1 = k
    · have e' : keyT q.1 = some k := e ▸ h.1
      simp only [List.find?_cons, decide_eq_true e, decide_eq_true e', Option.map_some]
      exact h.2.2
    · have e' : ¬ keyT q.1 = some k := fun z => e (Option.some.inj (h.1.symm.trans z))
      simp only [List.find?_cons, decide_eq_false e, decide_eq_false e']
      exact ih
theorem RepK.put {r : List Addr} {F : Hp} {l : List NEnt} {kvs : List (D × D)} (h : RepK K r F l kvs) {kd : D} {k : NestedKey} (hk : keyT kd = some k) {b : Addr} {v : V} {d : D} (hb : Rep K r F (.ref b) kd) (hv : Rep K r F v d) : RepK K r F (putN l k b v) (putKD kvs kd k d) := by
  have hs : (atN l k).isSome = (atD kvs k).isSome := by
    have := h.val k
    cases e1 : atN l k <;> cases e2 : atD kvs k <;> rw [e1, e2] at this <;> first | rfl | exact this.elim
  unfold putN putKD
  rw [hs]
  unfold RepK at h ⊢
  split
  · clear hs
    rename_i hh
    clear hh
    induction h with
    | nil => exact .nil
    | @cons p q ps qs h _ ih =>
      rw [List.map_cons, List.map_cons]
      refine .cons ?_ ih
      by_cases e : p.1 = k
      · rw [if_pos e, if_pos (e ▸ h.1)]; exact ⟨h.1, h.2.1, hv⟩
      · rw [if_neg e, if_neg (fun z => e (Option.some.inj (h.1.symm.trans z)))]; exact h
  · exact Paired.snoc h ⟨hk, hb, hv⟩
theorem RepK.up {r r' : List Addr} {F F' : Hp} {l : List NEnt} {kvs : List (D × D)} (p : r <+: r') (s : SubH F F') (h : RepK K r F l kvs) : RepK K r' F' l kvs := Paired.mapP h fun _ _ q => ⟨q.1, q.2.1.up p s, q.2.2.up p s⟩
theorem RepK.keys {r : List Addr} {F H : Hp} {l : List NEnt} {kvs : List (D × D)} (s : SubH F H) (h : RepK K r F l kvs) : ∀ x ∈ l, KeyAt K.K H x.2.1 x.1 := by
  unfold RepK at h
  induction h with
  | nil => intro x hx; exact nomatch hx
  | @cons p q ps qs h _ ih =>
    intro x hx
    rcases List.mem_cons.mp hx with rfl | hx
    · obtain ⟨b, e, hk⟩ := rep_keyT s h.2.1 h.1
      cases e
      exact hk
    · exact ih x hx
theorem RepK.len {r : List Addr} {F : Hp} {l : List NEnt} {kvs : List (D × D)} (h : RepK K r F l kvs) : l.length = kvs.length := Paired.length h
/-- the dict that x is -/
def dDc (S : Sto) : D → Option (List (D × D))
  | .ref n => match S[n]? with
    | some (.dct kvs) => some kvs
    | some (.fzd kvs) => some kvs
    | _ => none
  | _ => none
theorem dDc_at (o : w.Ok K S) {v : V} {d : D} (r : Rep K w.r w.F v d) {kvs : List (D × D)} (e : dDc S d = some kvs) : ∃ a l, v = .ref a ∧ NdAt K w.H a l ∧ RepK K w.r w.F l kvs := by
  cases r with
  | @ref a n h =>
    unfold dDc at e
    dsimp only at e
    split at e
    · rename_i ys hy
      cases e
      obtain ⟨l, h1, h2⟩ := o.obj n _ a hy h
      exact ⟨a, l, rfl, ⟨.inl h1, h2.keys o.sub⟩, h2⟩
    · rename_i ys hy
      cases e
      obtain ⟨ob, l, h1, h2⟩ := o.obj n _ a hy h
      exact ⟨a, l, rfl, ⟨.inr ⟨ob, h1⟩, h2.keys o.sub⟩, h2⟩
    · cases e
  | _ => cases e
end
section
variable {X : Cx} {B : Bs} {W : WX} {a b c e : Expr} {es : List Expr} {pos : Pos} {ma mb mc : Ed} {mA : Ad}
/-! ### {} -/
def mDnew : Ed := fun _ S => .ok (.ref S.length) (S ++ [.dct []])
theorem pe_nnew : PE X (.Dict [] [] pos) (fun _ H Q => ∀ p, H p = none → Q (.ref p) (upd H p (NdO X.w p []))) := ⟨fun pins s σ H Q I h =>
  wpAny_Dict_empty ⟨.ref s.heap.objs.size, _, I.laid (a := s.heap.objs.size) (o := NdO X.w s.heap.objs.size []) (t' := s.toks) (fun _ _ q => Heap.get?_push_of_some _ q) (Nat.le_refl _) (nd_empty s.heap I.big), rfl, h _ (I.hok.fresh (Nat.le_refl _))⟩⟩
theorem tr_dnew : Tr X B W (.Dict [] [] pos) mDnew := imE pe_nnew fun σ H Q h p hp => by
  obtain ⟨r0, F0, Γ, S, o, g, q⟩ := h
  obtain ⟨o', t⟩ := o.mut (x := .dct []) hp (u := NdO X.w p []) ⟨[], upd_same, .nil⟩
  refine q _ _ t o' (.ref ?_)
  rw [List.getElem?_append_right (by rw [o.len]; exact Nat.le_refl _), o.len, Nat.sub_self]
  rfl
/-! ### d[k] -/
def rIxN (K : Kw) : R2 := fun x y H Q => ∃ a b l k v, x = .ref a ∧ y = .ref b ∧ NdAt K H a l ∧ KeyAt K.K H b k ∧ atN l k = some v ∧ Q v H
def rIxK : R2 := fun x y H Q => ∃ a kvs k v, x = .ref a ∧ y = kV k ∧ Rd H a (.dK kvs) ∧ valV kvs k = some v ∧ Q v H
theorem tail_dict {s : Shared} {value slice : Expr} {o i : Value} {Q : Value → Shared → Prop} (hT : s.TypeIs o "dict") (hs : subscripted slice false o i = operate [o, i] (getItem o i)) (h : wpAny (model X.prog X.w) X.A (getItem o i) Q X.xe s) :
    wpAny (model X.prog X.w) X.A (subscriptTail value slice o i) Q X.xe s := by
  unfold subscriptTail
  refine wpAny_bind ?_
  rw [getitemInPython_of_ne hT.not_modules]
  refine wpAny_bind (wpAny_specialOf hT PySem.F.slot_dict_getitem.lookup ?_)
  have fin : wpAny (model X.prog X.w) X.A (subscripted slice false o i) (fun r s₃ => wpAny (model X.prog X.w) X.A (letTemporaryGo value o r >>= fun _ => pure r) Q X.xe s₃) X.xe s := by
    rw [hs]
    exact wpAny_operating (wpAny_mono h (fun r s₃ h₃ => wpAny_bind (wpAny_letTemporaryGo (wpAny_pure h₃))) fun _ _ x => x)
  first
    | exact wpAny_pure (wpAny_bind fin)
    | exact wpAny_bind (wpAny_pure (wpAny_bind fin))
    | exact wpAny_bind fin
theorem ix_nd {k : Nat} (hr : Room k X.A) : IxR X (rIxN X.kw) := by
  intro value slice pins s σ H x y v u Q I rx ry h hs
  obtain ⟨a, b, l, k, vv, rfl, rfl, hd, hk, hv, q⟩ := h
  cases (show v = Value.ref a from rx)
  cases (show u = Value.ref b from ry)
  obtain ⟨_, _, xs, _, dd⟩ := hd.get I
  exact tail_dict dd.typeIs hs (n_getItem (room8 hr) I hd hk hv fun w' s' I' rw' => ⟨vv, H, I', rw', q⟩)
theorem ix_dk {k : Nat} (hr : Room k X.A) : IxR X rIxK := by
  intro value slice pins s σ H x y v u Q I rx ry h hs
  obtain ⟨a, kvs, k, vv, rfl, rfl, hd, hv, q⟩ := h
  cases (show v = Value.ref a from rx)
  have g : DGet H a (kV k) (some vv) := .inl ⟨kvs, k, hd, rfl, hv.symm⟩
  exact tail_dict (dict_typeIs I g) hs (d_getItem (by have := room8 hr; omega) I g ry fun w' s' I' rw' => ⟨vv, H, I', rw', q⟩)
def dIxA (x y : D) (S : Sto) : Res D := match x with
  | .dct ks ds => match keyOf y with
    | some k => match lookK ks ds k with
      | some d => .ok d S
      | none => .bad
    | none => .bad
  | x => match dDc S x with
    | some kvs => match keyT y with
      | some k => match atD kvs k with
        | some d => .ok d S
        | none => .bad
      | none => .bad
    | none => dIx x y S
theorem keyOf_kV {K : Kw} {r : List Addr} {F : Hp} {v : V} {d : D} {k : Key} (h : Rep K r F v d) (e : keyOf d = some k) : v = kV k := by
  cases h <;> first | (cases e; rfl) | cases e
theorem so_ixA {K : Kw} : SoR K (fun x y H Q => rIx K x y H Q ∨ (rIxN K x y H Q ∨ rIxK x y H Q)) dIxA := by
  intro W w σ S x y d e Q o rx ry h
  have gen : (∀ ks ds, d ≠ .dct ks ds) → PoE K W w σ (match dDc S d with
    | some kvs => match keyT e with
      | some k => match atD kvs k with
        | some d => .ok d S
        | none => .bad
      | none => .bad
    | none => dIx d e S) Q → (fun x y H Q => rIx K x y H Q ∨ (rIxN K x y H Q ∨ rIxK x y H Q)) x y w.H Q := fun _ h => by
    cases e1 : dDc S d with
    | none => rw [e1] at h; exact .inl (so_ix W w σ S x y d e Q o rx ry h)
    | some kvs =>
      rw [e1] at h
      dsimp only at h
      obtain ⟨a, l, rfl, h1, h2⟩ := dDc_at o rx e1
      cases e2 : keyT e with
      | none => rw [e2] at h; exact h.elim
      | some k =>
        rw [e2] at h
        dsimp only at h
        obtain ⟨b, rfl, hk⟩ := rep_keyT o.sub ry e2
        have hv := h2.val k
        cases e3 : atD kvs k with
        | none => rw [e3] at h; exact h.elim
        | some dv =>
          rw [e3] at h hv
          cases e4 : atN l k with
          | none => rw [e4] at hv; exact hv.elim
          | some v =>
            rw [e4] at hv
            exact .inr (.inl ⟨a, b, l, k, v, rfl, rfl, h1, hk, e4, h.now o hv⟩)
  cases rx with
  | @dct a kvs ks vs ds hF ek hl hs =>
    unfold dIxA at h
    dsimp only at h
    cases e1 : keyOf e with
    | none => rw [e1] at h; exact h.elim
    | some k =>
      rw [e1] at h
      dsimp only at h
      have := keyOf_kV ry e1
      subst this
      subst ek
      rcases lookK_ok k hl hs with ⟨e2, _⟩ | ⟨d', v', e2, e3, rv⟩
      · rw [e2] at h; exact h.elim
      · rw [e2] at h
        exact .inr (.inr ⟨a, _, k, v', rfl, rfl, .inl (o.sub _ _ hF), e3, h.now o rv⟩)
  | non => exact gen (fun _ _ z => nomatch z) h
  | bl _ => exact gen (fun _ _ z => nomatch z) h
  | int _ => exact gen (fun _ _ z => nomatch z) h
  | str _ => exact gen (fun _ _ z => nomatch z) h
  | opq _ => exact gen (fun _ _ z => nomatch z) h
  | adr _ => exact gen (fun _ _ z => nomatch z) h
  | tup _ _ => exact gen (fun _ _ z => nomatch z) h
  | lst _ _ => exact gen (fun _ _ z => nomatch z) h
  | fz _ _ => exact gen (fun _ _ z => nomatch z) h
  | ref _ => exact gen (fun _ _ z => nomatch z) h
theorem tr_ixA {k : Nat} (hr : Room k X.A) (ha : Tr X B W a ma) (hb : Tr X B W b mb) (hs : PlainIx b := by exact fun _ _ => rfl) : Tr X B W (.Subscript a b pos) (mOp dIxA ma mb) :=
  imE (pe_ix (ix_seq.or ((ix_nd hr).or (ix_dk hr))) ha hb hs) fun σ H Q h => so_op so_ixA h
/-! ### k in d, in general -/
def rInN (K : Kw) (n : Bool) : R2 := fun x y H Q => ∃ a b l k, x = .ref b ∧ y = .ref a ∧ NdAt K H a l ∧ KeyAt K.K H b k ∧ Q (.bl (if n then !(atN l k).isSome else (atN l k).isSome)) H
theorem op_in_nd {k : Nat} (hr : Room k X.A) : OpR X (compareOp .In) (rInN X.kw false) := by
  intro pins s σ H x y v u Q I rx ry h
  obtain ⟨a, b, l, k, rfl, rfl, hd, hk, q⟩ := h
  cases (show v = Value.ref b from rx)
  cases (show u = Value.ref a from ry)
  exact n_in (room8 hr) I hd hk fun s' I' => ⟨.bl (atN l k).isSome, H, I', rfl, q⟩
theorem op_notin_nd {k : Nat} (hr : Room k X.A) : OpR X (compareOp .NotIn) (rInN X.kw true) := by
  intro pins s σ H x y v u Q I rx ry h
  obtain ⟨a, b, l, k, rfl, rfl, hd, hk, q⟩ := h
  cases (show v = Value.ref b from rx)
  cases (show u = Value.ref a from ry)
  exact n_notIn (room8 hr) I hd hk fun s' I' => ⟨.bl (!(atN l k).isSome), H, I', rfl, q⟩
def dInA (n : Bool) (x y : D) (S : Sto) : Res D := match dDc S y with
  | some kvs => match keyT x with
    | some k => .ok (.bl (if n then !(atD kvs k).isSome else (atD kvs k).isSome)) S
    | none => .bad
  | none => match x, y with
    | .str x, .str z => match x.cps.toList with
      | [c] => .ok (.bl (if n then !decide (c ∈ z.cps.toList) else decide (c ∈ z.cps.toList))) S
      | _ => .bad
    | x, y => dIn n x y S
def rSgN (n : Bool) : R2 := fun x y H Q => ∃ (c : Nat) (z : Str), x = .str ⟨#[c]⟩ ∧ y = .str z ∧ Q (.bl (if n then !decide (c ∈ z.cps.toList) else decide (c ∈ z.cps.toList))) H
theorem so_inA {K : Kw} {n : Bool} : SoR K (fun x y H Q => rIn K n x y H Q ∨ (rSgN n x y H Q ∨ rInN K n x y H Q)) (dInA n) := by
  intro W w σ S x y d e Q o rx ry h
  unfold dInA at h
  cases e1 : dDc S e with
  | some kvs =>
    rw [e1] at h
    dsimp only at h
    obtain ⟨a, l, rfl, h1, h2⟩ := dDc_at o ry e1
    cases e2 : keyT d with
    | none => rw [e2] at h; exact h.elim
    | some k =>
      rw [e2] at h
      dsimp only at h
      obtain ⟨b, rfl, hk⟩ := rep_keyT o.sub rx e2
      have hv := h2.val k
      have hs : (atN l k).isSome = (atD kvs k).isSome := by
        cases q1 : atN l k <;> cases q2 : atD kvs k <;> rw [q1, q2] at hv <;> first | rfl | exact hv.elim
      refine .inr (.inr ⟨a, b, l, k, rfl, rfl, h1, hk, ?_⟩)
      rw [hs]
      exact h.now o (.bl _)
  | none =>
    rw [e1] at h
    dsimp only at h
    split at h
    · rename_i xx z
      split at h
      · rename_i c hc
        cases rx with
        | str i =>
          cases ry with
          | str j =>
            refine .inr (.inl ⟨c, z, ?_, rfl, h.now o (.bl _)⟩)
            obtain ⟨⟨l⟩⟩ := xx
            have hc' : l = [c] := hc
            rw [hc']
      · exact h.elim
    · exact .inl (so_in W w σ S x y d e Q o rx ry h)
theorem op_in_all {k : Nat} (hr : Room k X.A) : OpR X (compareOp .In) (fun x y H Q => rIn X.kw false x y H Q ∨ (rSgN false x y H Q ∨ rInN X.kw false x y H Q)) := OpR.or op_in_seq (OpR.or op_in_sign (op_in_nd hr))
theorem op_notin_all {k : Nat} (hr : Room k X.A) : OpR X (compareOp .NotIn) (fun x y H Q => rIn X.kw true x y H Q ∨ (rSgN true x y H Q ∨ rInN X.kw true x y H Q)) := OpR.or op_notIn_seq (OpR.or op_notIn_sign (op_notin_nd hr))
theorem tr_inA {k : Nat} (hr : Room k X.A) (ha : Tr X B W a ma) (hb : Tr X B W b mb) (hm : behindInMarks .In b = false := by first | rfl | with_unfolding_all rfl) : Tr X B W (.Compare a [.In] [b] pos) (mOp (dInA false) ma mb) := tr_cmp (op_in_all hr) so_inA ha hb hm
theorem tb_inA {k : Nat} (hr : Room k X.A) (ha : Tr X B W a ma) (hb : Tr X B W b mb) (hm : behindInMarks .In b = false := by first | rfl | with_unfolding_all rfl) : TrB X B W (.Compare a [.In] [b] pos) (mT (mOp (dInA false) ma mb)) := tb_cmp (op_in_all hr) so_inA ha hb hm
theorem tr_ninA {k : Nat} (hr : Room k X.A) (ha : Tr X B W a ma) (hb : Tr X B W b mb) (hm : behindInMarks .NotIn b = false := by first | rfl | with_unfolding_all rfl) : Tr X B W (.Compare a [.NotIn] [b] pos) (mOp (dInA true) ma mb) := tr_cmp (op_notin_all hr) so_inA ha hb hm
theorem tb_ninA {k : Nat} (hr : Room k X.A) (ha : Tr X B W a ma) (hb : Tr X B W b mb) (hm : behindInMarks .NotIn b = false := by first | rfl | with_unfolding_all rfl) : TrB X B W (.Compare a [.NotIn] [b] pos) (mT (mOp (dInA true) ma mb)) := tb_cmp (op_notin_all hr) so_inA ha hb hm
end
end Fx
end

section
set_option Elab.async false
set_option linter.all false
set_option maxRecDepth 100000
set_option maxHeartbeats 4000000
/-! {k: v for ..} with tuples as keys -/
namespace Fx
open PySem PySem.Spec PyProof.Rows L2
variable [Nam]
section
variable {X : Cx}
/-- what a turn must give -/
def DcTurn (K : Kw) (D : Addr) (Nx : Hp → Prop) (y z : V) (H : Hp) : Prop := ∃ l b k, y = .ref b ∧ H D = some (NdO K.w D l) ∧ (∀ x ∈ l, KeyAt K.K H x.2.1 x.1) ∧ KeyAt K.K H b k ∧ l.length < sizeLine ∧ Nx (upd H D (NdO K.w D (putN l k b z)))
def tDcN (K : Kw) (wi : TI) (g : TG) (tt : TT) (tk tv : TE) (vs : List Nat) : TE := fun σ H Q => wi σ H fun J H1 => ∀ D, H1 D = none → ∃ Wt : Nat → Nat → Hp → Prop, (∃ m, Wt 0 m (upd H1 D (NdO K.w D []))) ∧ ∀ i m H', Wt i m H' →
  (J.stop i H' ∧ Q (.ref D) H') ∨ (J.go i H' ∧ ∃ Nx : Hp → Prop, (∀ G, Nx G → ∃ m', m' < m ∧ Wt (i + 1) m' G) ∧
    ∀ x G, J.yld i H' x G → g x (wipe σ vs) G fun σ2 H2 => wipe σ2 vs = wipe σ vs ∧ tt σ2 H2 fun b H3 => if b = true then tk σ2 H3 fun y H4 => tv σ2 H4 fun z H5 => DcTurn K D Nx y z H5 else Nx H3)
abbrev BlkT (X : Cx) (scope : Scope) (P : Cx → Prop) : Prop := ∀ (s : Shared) (H : Hp) (C : Addr) (cl : List (Str × Addr)) (fp : List Addr), P (X.blk s H scope (compEnvC scope cl C X.env) fp)
theorem ndc_core {pins : List (Addr × Obj)} {s : Shared} {σ : L2.St} {H : Hp} {Q : VK} {kx vx tg iter : Expr} {ifs : List Expr} {scope : Scope} {own : List (Str × Nat)} {pos pos' : Pos} {wi : TI} {g : TG} {tt : TT} {tk tv : TE} {kk : Nat} {use : Option (Value → Sem Unit)} {Qf : Value → Shared → Prop}
    (hr : Room kk X.A) (hc : X.calm = true) (hN : X.N.Nodup) (I : Inv X pins σ H s) (hi : PI X tg iter wi) (ok : BlkOk X.N X.env.scope scope own)
    (hg : BlkT X scope fun Y => PG Y tg g) (ht : BlkT X scope fun Y => PTs Y ifs tt) (hk : BlkT X scope fun Y => PE Y kx tk) (he : BlkT X scope fun Y => PE Y vx tv) (hs : ∀ x, foldedSetIterable iter X.env x = pure x)
    (h : tDcN X.kw wi g tt tk tv (own.map (·.2)) σ H Q)
    (last : ∀ D C r m G, Inv X pins σ G r → Q (.ref D) G → r.heap.Ns C m → FpOk X pins G C → compPost (model X.prog X.w) X.A X.xe use Qf (.ref D) C (.ok .next) r) :
    wpAny (model X.prog X.w) X.A (comprehension (.DictComp kx vx [⟨tg, iter, ifs, 0⟩] scope pos) scope X.env pos' newDict false (eval iter X.env) use) Qf X.xe s := by
  have hu := room8 hr
  have clos : ∀ z ∈ scope.names, z.2 = .free → ∃ c, X.env.cells.lookup z.1 = some c := fun z hz ez => (ok.free z hz ez).elim (fun q => I.ok.has _ (.inl q)) fun q => I.ok.has _ (.inr q)
  refine wpAny_comprehension_free (use := use) rfl hs (closure_ok clos) ok.kind (fun z hz ez => by rw [ok.uniq z hz, ez]) (thn (hi.run pins s σ H _ I h) fun _ r1 h1 => thn h1 fun _ r2 h2 => ?_)
  obtain ⟨it, fp, tn, J, G2, e, J2, T, n2, f2, q⟩ := h2
  subst e
  refine wpAny_newObj_type (newEnv_comp ?_)
  generalize hD : r2.heap.objs.size = D
  have free2 : G2 D = none := J2.hok.fresh (Nat.le_of_eq hD)
  obtain ⟨Wt, ⟨m0, w0⟩, turn⟩ := q D free2
  generalize hr3 : ({ r2 with heap := r2.heap.push { cls := .type "dict", data := .dict #[] } } : Shared) = r3
  have J3 : Inv X pins σ (upd G2 D (NdO X.w D [])) r3 := by
    rw [← hr3]
    refine J2.laid (t' := r2.toks) (fun b o eb => Heap.get?_push_of_some _ eb) (Nat.le_of_eq hD) ?_
    have z := nd_empty (P := X.prog) (w := X.w) (H := upd G2 D (NdO X.w D [])) r2.heap J2.big
    rw [hD] at z
    exact z
  have hh3 : r3.heap = r2.heap.push { cls := .type "dict", data := .dict #[] } := by rw [← hr3]
  have lt2 : ∀ b ∈ fp, b < r2.heap.objs.size := fun b hb => let ⟨_, eb, _⟩ := T.obj _ _ n2 b hb; Heap.lt_size eb
  have f3 : ∀ b ∈ fp, FpOk X pins (upd G2 D (NdO X.w D [])) b ∧ b < r3.heap.objs.size := fun b hb => by
    have hlt := lt2 b hb
    have hbD : b ≠ D := by rw [← hD]; exact Nat.ne_of_lt hlt
    exact ⟨⟨by rw [upd_ne hbD]; exact (f2 b hb).1, (f2 b hb).2⟩, by rw [hh3, Heap.size_push]; exact Nat.lt_succ_of_lt hlt⟩
  have n3 : tn 0 r3.heap := T.keep _ _ _ n2 fun b _ o eb => by rw [hh3]; exact Heap.get?_push_of_some _ eb
  have J4 := block_start J3 ok hN f3
  have P1 := hg r3 (upd G2 D (NdO X.w D [])) r3.heap.objs.size (cellsFrom (r3.heap.objs.size + 1) scope.names (cloFrom X.env.cells scope.names [])) fp
  have P2 := ht r3 (upd G2 D (NdO X.w D [])) r3.heap.objs.size (cellsFrom (r3.heap.objs.size + 1) scope.names (cloFrom X.env.cells scope.names [])) fp
  have P3 := hk r3 (upd G2 D (NdO X.w D [])) r3.heap.objs.size (cellsFrom (r3.heap.objs.size + 1) scope.names (cloFrom X.env.cells scope.names [])) fp
  have P4 := he r3 (upd G2 D (NdO X.w D [])) r3.heap.objs.size (cellsFrom (r3.heap.objs.size + 1) scope.names (cloFrom X.env.cells scope.names [])) fp
  show codeAny _ _ (.compStart (.DictComp kx vx [⟨tg, iter, ifs, 0⟩] scope pos) 0 (.ref it) (.ref D) (compEnvC scope (cellsFrom (r3.heap.objs.size + 1) scope.names (cloFrom X.env.cells scope.names [])) r3.heap.objs.size X.env)) (compPost (model X.prog X.w) X.A X.xe use Qf (.ref D) r3.heap.objs.size) { r3 with heap := pushCells (r3.heap.push { cls := .type "dict", data := .dict #[] }) scope.names }
  have nofp : ∀ b ∈ fp, (upd G2 D (NdO X.w D [])) b = none := fun b hb => (f3 b hb).1.1
  generalize hce : compEnvC scope (cellsFrom (r3.heap.objs.size + 1) scope.names (cloFrom X.env.cells scope.names [])) r3.heap.objs.size X.env = ce at J4 P1 P2 P3 P4 ⊢
  have hloc : ce.locals = r3.heap.objs.size := by subst hce; rfl
  generalize hG3 : upd G2 D (NdO X.w D []) = G3 at J3 J4 P1 P2 P3 P4 w0 nofp f3
  generalize hr4 : ({ r3 with heap := pushCells (r3.heap.push { cls := .type "dict", data := .dict #[] }) scope.names } : Shared) = r4 at J4 ⊢
  have n4 : tn 0 r4.heap := T.keep _ _ _ n3 fun b _ o eb => by rw [← hr4]; exact pushCells_keeps _ _ _ _ (Heap.get?_push_of_some _ eb)
  have fpok : ∀ {τ : L2.St} {G : Hp} {r : Shared}, Inv (X.blk r3 G3 scope ce fp) [] τ G r → (∀ b ∈ fp, G b = none) → ∀ b ∈ fp, FpOk (X.blk r3 G3 scope ce fp) [] G b := fun {τ G r} J' hn b hb =>
    ⟨hn b hb, (J'.ok.exf b hb).1, J'.ok.exfs b hb, .inl hb, fun x c eb => (J'.ok.exf b hb).2 x c eb, fun p hp => nomatch (show p ∈ ([] : List (Addr × Obj)) ++ [] from hp)⟩
  refine codeAny_compStart_dict ?lp (T.self X.A 0 _ _ _ n4 ?lp)
  refine compLoop_anyD (fun n r => ∃ i G, Inv (X.blk r3 G3 scope ce fp) [] (wipe σ (own.map (·.2))) G r ∧ tn i r.heap ∧ (∀ b ∈ fp, G b = none) ∧ Wt i n G) ?_ m0 ⟨0, G3, J4, n4, nofp, w0⟩
  rintro n r5 ⟨i, G5, J5, n5, no5, w5⟩
  rcases turn i n G5 w5 with ⟨stop, qq⟩ | ⟨go, Nx, hNx, step⟩
  · have td := T.done (X.blk r3 G3 scope ce fp) rfl rfl rfl hc i [] r5 _ G5 (fun _ _ => False) J5 (fpok J5 no5) n5 stop
    refine thnF td fun u r6 ⟨hu6, J6⟩ => ?_
    subst hu6
    have J7 : Inv X pins σ G5 r6 := J3.call' (ch := fp) J6.os J6.base J6.hok J6.bare fun b hb => ⟨(f3 b hb).1.2.2.2.1, (f3 b hb).1.2.1, (f3 b hb).1.2.2.2.2.1, (f3 b hb).1.2.2.2.2.2⟩
    have nC : G5 r3.heap.objs.size = none := by
      have z : G5 ce.locals = none := J6.free
      rwa [hloc] at z
    obtain ⟨m, hn, _⟩ := J6.loc
    have hn : r6.heap.Ns ce.locals m := hn
    rw [hloc] at hn
    exact last D r3.heap.objs.size r6 m G5 J7 qq hn (J3.fpOk (Nat.le_refl _) nC)
  · have ti := T.item (X.blk r3 G3 scope ce fp) rfl rfl rfl hc i [] r5 _ G5 (fun _ _ => False) J5 (fpok J5 no5) n5 go
    refine thnF ti fun u r6 ⟨v6, hu6, h6⟩ => ?_
    subst hu6
    refine thnF h6 fun _ r7 ⟨x, G7, J7, rv7, y7, n7, no7⟩ => ?_
    have J7' := J7.pinned (fpok J7 no7) (T.obj _ _ n7)
    refine thnF (P1.run _ r7 _ G7 x v6 _ J7' rv7 (step x G7 y7)) fun _ r8 ⟨τ8, G8, J8, hw8, q8⟩ => ?_
    refine thnF (P2.run _ r8 τ8 G8 _ J8 q8) fun b r9 ⟨G9, J9, q9⟩ => ?_
    have fin : ∀ {r : Shared} {G : Hp}, Inv (X.blk r3 G3 scope ce fp) ([] ++ pinsAt fp r7.heap) τ8 G r → Nx G → ∃ m, m < n ∧ ∃ i G, Inv (X.blk r3 G3 scope ce fp) [] (wipe σ (own.map (·.2))) G r ∧ tn i r.heap ∧ (∀ b ∈ fp, G b = none) ∧ Wt i m G := fun {r G} J' nx => by
      obtain ⟨m', hm, w'⟩ := hNx G nx
      have pinned : ∀ b ∈ fp, ∀ o, r7.heap.get? b = some o → r.heap.get? b = some o ∧ G b = none := fun b hb o eb =>
        have z := J'.pin (b, o) (List.mem_append_right _ (List.mem_append_right _ (mem_pinsAt hb eb)))
        ⟨z.1, z.2.1⟩
      have hl : (wipe σ (own.map (·.2))).length = τ8.length := by rw [← hw8, wipe_length]
      refine ⟨m', hm, i + 1, G, (J'.unpinned (pins := [])).weak hl (fun j v ej => ?_), T.keep _ _ _ n7 fun b hb o eb => (pinned b hb o eb).1, fun b hb => ?_, w'⟩
      · rw [← hw8] at ej
        exact (wipe_some ej).1
      · obtain ⟨o, eb, _⟩ := T.obj _ _ n7 b hb
        exact (pinned b hb o eb).2
    cases b with
    | false => rw [if_neg Bool.false_ne_true] at q9 ⊢; exact fin J9 q9
    | true =>
      rw [if_pos rfl] at q9 ⊢
      refine thnF (P3.run _ r9 τ8 G9 _ J9 q9) fun w1 r10 ⟨yk, G10, J10, rv10, q10⟩ => ?_
      refine thnF (P4.run _ r10 τ8 G10 _ J10 q10) fun w2 r11 ⟨yv, G11, J11, rv11, l, b, k, ek, eD, hks, hkb, hz, nx⟩ => ?_
      subst ek
      cases (show w1 = Value.ref b from rv10)
      exact n_dictSet (X := X.blk r3 G3 scope ce fp) hu J11 eD hks hkb hz rv11 fun r12 J12 => fin J12 nx
theorem pe_ndc {kx vx tg iter : Expr} {ifs : List Expr} {scope : Scope} {own : List (Str × Nat)} {pos : Pos} {wi : TI} {g : TG} {tt : TT} {tk tv : TE} {kk : Nat} (hr : Room kk X.A) (hc : X.calm = true) (hN : X.N.Nodup) (hi : PI X tg iter wi) (ok : BlkOk X.N X.env.scope scope own)
    (hg : BlkT X scope fun Y => PG Y tg g) (ht : BlkT X scope fun Y => PTs Y ifs tt) (hk : BlkT X scope fun Y => PE Y kx tk) (he : BlkT X scope fun Y => PE Y vx tv) (hs : ∀ x, foldedSetIterable iter X.env x = pure x := by intro _; rfl) :
    PE X (.DictComp kx vx [⟨tg, iter, ifs, 0⟩] scope pos) (tDcN X.kw wi g tt tk tv (own.map (·.2))) := by
  refine ⟨fun pins s σ H Q I h => ?_⟩
  rw [arm_eval_DictComp]
  refine ndc_core hr hc hN I hi ok hg ht hk he hs h fun D C r m G J qq hn f => ⟨m, hn, fun h'' sb => ?_⟩
  obtain ⟨a0, a1, a2, a3, a4, a5⟩ := f
  exact ⟨.ref D, G, J.turned (t' := r.toks) (fun b o hb eb => (sb.2 b hb).trans eb) a0 a1 a3 a4 a5, rfl, qq⟩
/-- y = {k: v for ..} -/
theorem ps_setNdc {i : Nat} {y : Str} {py spos : Pos} {kx vx tg iter : Expr} {ifs : List Expr} {scope : Scope} {own : List (Str × Nat)} {pos : Pos} {wi : TI} {g : TG} {tt : TT} {tk tv : TE} {kk : Nat} (hr : Room kk X.A) (hc : X.calm = true) (hN : X.N.Nodup) (hy : X.N[i]? = some y) (hyl : X.env.scope.names.lookup y = some .local)
    (hsw : swapsWith (.DictComp kx vx [⟨tg, iter, ifs, 0⟩] scope pos) (some (.Name y py)) spos.line X.env = pure true) (hi : PI X tg iter wi) (ok : BlkOk X.N X.env.scope scope own)
    (hg : BlkT X scope fun Y => PG Y tg g) (ht : BlkT X scope fun Y => PTs Y ifs tt) (hk : BlkT X scope fun Y => PE Y kx tk) (he : BlkT X scope fun Y => PE Y vx tv) (hs : ∀ x, foldedSetIterable iter X.env x = pure x := by intro _; rfl) :
    PS X (.Assign [.Name y py] (.DictComp kx vx [⟨tg, iter, ifs, 0⟩] scope pos) spos) (tAsg (tDcN X.kw wi g tt tk tv (own.map (·.2))) (gName i)) := by
  refine ⟨fun pins s σ H E I h => ?_⟩
  rw [exec_Assign_Name_used _ _ _ _ hsw]
  refine wpAny_bind (wpAny_standAt (wpAny_bind ?_))
  show wpAny _ X.A (do let _ ← comprehension (.DictComp kx vx [⟨tg, iter, ifs, 0⟩] scope pos) scope X.env (firstIterPos [⟨tg, iter, ifs, 0⟩] pos) newDict false (eval iter X.env) (some (assign (.Name y py) X.env))) _ _ s
  have h : tDcN X.kw wi g tt tk tv (own.map (·.2)) σ H (fun x G => gName i x σ G E.nx) := h
  refine wpAny_bind (thn (ndc_core (Qf := fun _ r => SP X pins E .next r) hr hc hN I hi ok hg ht hk he hs h fun D C r m G J qq hn f => ?_) fun _ r hq => wpAny_pure (wpAny_pure hq))
  show wpAny _ _ (assign (.Name y py) X.env (.ref D)) _ _ _
  refine wpAny_assign_Name (store_ok2 (v := V.ref D) J hN hy (.inl hyl) rfl (fun r2 J2 ⟨c, sb, hc2⟩ => ?_) (.inr hyl))
  obtain ⟨a0, a1, a2, a3, a4, a5⟩ := f
  have ne : C ≠ c := hc2.elim (fun z => by rw [z]; exact a1) fun z e => a4 y c z e.symm
  exact ⟨m, hn.sameBut sb ne, fun h3 sb3 => ⟨_, G, J2.turned (t' := r2.toks) (fun b o hb eb => (sb3.2 b hb).trans eb) a0 a1 a3 a4 a5, qq⟩⟩
end
end Fx
end

section
set_option Elab.async false
set_option linter.all false
set_option maxRecDepth 100000
set_option maxHeartbeats 4000000
namespace Fx
open PySem PySem.Spec PyProof.Rows L2
variable [Nam]
/-! ### {k: v for ..} -/
def dcL (s : Sr) (tg : Td) (Γ : En) (cnd : Bd) (ke ve : Ed) : Nat → Nat → List (D × D) → Sto → Res (List (D × D))
  | 0, _, _, _ => .bad
  | n + 1, i, acc, S => match itS s i S with
    | none => .bad
    | some none => .ok acc S
    | some (some d) => match tg d Γ with
      | none => .bad
      | some Γ1 => match cnd Γ1 S with
        | .ok true S1 => match ke Γ1 S1 with
          | .ok y S2 => match ve Γ1 S2 with
            | .ok z S3 => match keyT y with
              | some k => if acc.length < big then dcL s tg Γ cnd ke ve n (i + 1) (putKD acc y k z) S3 else .bad
              | none => .bad
            | _ => .bad
          | _ => .bad
        | .ok false S1 => dcL s tg Γ cnd ke ve n (i + 1) acc S1
        | _ => .bad
def mkDc (kvs : List (D × D)) (S : Sto) : Res D := .ok (.ref S.length) (S ++ [.dct kvs])
def mDc (vs : List Nat) (src : Id') (tg : Td) (cnd : Bd) (ke ve : Ed) : Ed := fun Γ S => (src Γ S).bind fun s S1 => (dcL s tg (wipeE Γ vs) cnd ke ve (lenS s S1) 0 [] S1).bind mkDc
section
variable {K : Kw} {B : Bs} {W : WX} {w w0 : Wd} {σ : L2.St} {Γ : En} {S : Sto} {p : Addr}
theorem takeD {kvs : List (D × D)} {l : List NEnt} {Q : VK} (o : w.Ok K S) (t : Step w0 w) (h : w0.H p = none) (hr : p ∉ w.r) (hF : w.F p = none) (e : w.H p = some (NdO K.w p l)) (r : RepK K w.r w.F l kvs) (q : PoE K W w0 σ (mkDc kvs S) Q) : Q (.ref p) w.H := by
  have eH := upd_id e
  have hL : Lo p (w.H p) := by rw [e]; exact lo_nd
  obtain ⟨o', t'⟩ := o.takeM (u := NdO K.w p l) (x := .dct kvs) t h hr hF hL ⟨l, upd_same, r.up (pre_app _ _) (SubH.refl _)⟩
  rw [eH] at o' t'
  refine q ⟨w.r ++ [p], w.F, w.H⟩ (.ref p) t' o' (.ref ?_)
  rw [List.getElem?_append_right (by rw [o.len]; exact Nat.le_refl _), o.len, Nat.sub_self]
  rfl
theorem nd_notbl {w : World} {a : Addr} {l : List NEnt} : ∀ ps, NdO w a l ≠ .tbl ps := fun ps z => by unfold NdO at z; cases z
theorem so_ndc {vs : List Nat} {g : TG} {tg : Td} {cnd : Bd} {ke ve : Ed} {s : Sr} {J : It} {Q : VK}
    (hg : ∀ {w : Wd} {S : Sto} {v : V} {d : D} {Γ' : En} {R : L2.St → Hp → Prop}, w.Ok K S → Rep K w.r w.F v d → EnOk K B w (wipeE Γ vs) (wipe σ vs) → tg d (wipeE Γ vs) = some Γ' → (∀ σ', EnOk K B w Γ' σ' → wipe σ' vs = wipe σ vs → R σ' w.H) → g v (wipe σ vs) w.H R)
    (kp : ∀ i, Keeps B i) (o0 : w0.Ok K S) (g0 : EnOk K B w0 Γ σ) (hs : SrOk K w0 J s) (q : PoE K W w0 σ ((dcL s tg (wipeE Γ vs) cnd ke ve (lenS s S) 0 [] S).bind mkDc) Q) (D0 : Addr) (hD : w0.H D0 = none) :
    ∃ Wt : Nat → Nat → Hp → Prop, (∃ m, Wt 0 m (upd w0.H D0 (NdO K.w D0 []))) ∧ ∀ i m H, Wt i m H →
      (J.stop i H ∧ Q (.ref D0) H) ∨ (J.go i H ∧ ∃ Nx : Hp → Prop, (∀ H', Nx H' → ∃ m', m' < m ∧ Wt (i + 1) m' H') ∧ ∀ x H', J.yld i H x H' → g x (wipe σ vs) H' fun σ2 H2 => wipe σ2 vs = wipe σ vs ∧ cB K B W0 cnd σ2 H2 fun b H3 =>
        if b = true then cE K B W0 ke σ2 H3 fun y H4 => cE K B W0 ve σ2 H4 fun z H5 => DcTurn K D0 Nx y z H5 else Nx H3) := by
  let Wt : Nat → Nat → Hp → Prop := fun i m H => ∃ r F S acc l, Wd.Ok K ⟨r, F, H⟩ S ∧ Step w0 ⟨r, F, H⟩ ∧ H D0 = some (NdO K.w D0 l) ∧ RepK K r F l acc ∧ F D0 = none ∧ D0 ∉ r ∧ PoE K W w0 σ ((dcL s tg (wipeE Γ vs) cnd ke ve m i acc S).bind mkDc) Q
  refine ⟨Wt, ⟨lenS s S, ?_⟩, fun i m H hw => ?_⟩
  · obtain ⟨o1, t1⟩ := o0.side (u := NdO K.w D0 []) (.inl hD)
    exact ⟨w0.r, w0.F, S, [], [], o1, t1 hD, upd_same, .nil, o0.noF hD, o0.notin hD, q⟩
  · obtain ⟨r, F, S, acc, l, o, t, eD, ra, fD, nD, q⟩ := hw
    cases m with
    | zero => exact q.elim
    | succ m =>
      unfold dcL at q
      have hs' := hs.step t
      cases e1 : itS s i S with
      | none => rw [e1] at q; exact q.elim
      | some od =>
        rw [e1] at q
        cases od with
        | none => exact .inl ⟨sr_stop o hs' e1, takeD (w := ⟨r, F, H⟩) o t hD nD fD eD ra q⟩
        | some d =>
          dsimp only at q
          obtain ⟨go, yl⟩ := sr_go o hs' e1
          cases e2 : tg d (wipeE Γ vs) with
          | none => rw [e2] at q; exact q.elim
          | some Γ1 =>
            rw [e2] at q
            dsimp only at q
            refine .inr ⟨go, Wt (i + 1) m, fun H' h => ⟨m, Nat.lt_succ_self _, h⟩, fun x H' hy => ?_⟩
            obtain ⟨F1, o1, t1, rx⟩ := yl x H' hy
            obtain ⟨eD1, nD1, fD1⟩ := t1.at_side (p := D0) eD nD fD nd_notbl
            refine hg (w := ⟨r, F1, H'⟩) o1 rx (wipe_ok kp ((g0.step t).step t1) vs) e2 fun σ2 g2 ew => ⟨ew, r, F1, Γ1, S, o1, g2, ?_⟩
            cases e3 : cnd Γ1 S with
            | bad => rw [e3] at q; exact q.elim
            | exc _ _ _ => rw [e3] at q; exact q.elim
            | ok b S1 =>
              intro w2 t2 o2
              obtain ⟨eD2, nD2, fD2⟩ := t2.at_side (p := D0) eD1 nD1 fD1 nd_notbl
              rw [e3] at q
              cases b with
              | false =>
                rw [if_neg Bool.false_ne_true]
                exact ⟨w2.r, w2.F, S1, acc, l, o2, (t.trans t1).trans t2, eD2, ra.up (t1.trans t2).pre (t1.trans t2).sub, fD2, nD2, q⟩
              | true =>
                rw [if_pos rfl]
                dsimp only at q
                refine ⟨w2.r, w2.F, Γ1, S1, o2, g2.step t2, ?_⟩
                cases e4 : ke Γ1 S1 with
                | bad => rw [e4] at q; exact q.elim
                | exc _ _ _ => rw [e4] at q; exact q.elim
                | ok y S2 =>
                  intro w3 v t3 o3 r3
                  obtain ⟨eD3, nD3, fD3⟩ := t3.at_side (p := D0) eD2 nD2 fD2 nd_notbl
                  rw [e4] at q
                  dsimp only at q
                  refine ⟨w3.r, w3.F, Γ1, S2, o3, (g2.step t2).step t3, ?_⟩
                  cases e5 : ve Γ1 S2 with
                  | bad => rw [e5] at q; exact q.elim
                  | exc _ _ _ => rw [e5] at q; exact q.elim
                  | ok z S3 =>
                    intro w4 u t4 o4 r4
                    obtain ⟨eD4, nD4, fD4⟩ := t4.at_side (p := D0) eD3 nD3 fD3 nd_notbl
                    rw [e5] at q
                    dsimp only at q
                    cases e6 : keyT y with
                    | none => rw [e6] at q; exact q.elim
                    | some k =>
                      rw [e6] at q
                      dsimp only at q
                      split at q
                      · rename_i hz
                        have tt := ((t1.trans t2).trans t3).trans t4
                        have ra4 := ra.up tt.pre tt.sub
                        have r3' := r3.up t4.pre t4.sub
                        obtain ⟨b, rfl, hk⟩ := rep_keyT o4.sub r3' e6
                        refine ⟨l, b, k, rfl, eD4, ra4.keys o4.sub, hk, big_lt (by rw [ra.len]; exact hz), ?_⟩
                        obtain ⟨o5, _⟩ := o4.side (u := NdO K.w D0 (putN l k b u)) (.inr ⟨nD4, fD4⟩)
                        exact ⟨w4.r, w4.F, S3, putKD acc y k z, putN l k b u, o5, (t.trans tt).sideBack hD nD4 (by rw [eD4]; exact lo_nd), upd_same, ra4.put e6 r3' r4, fD4, nD4, q⟩
                      · exact q.elim
end
section
variable {X : Cx} {B : Bs} {W : WX} {kx vx tg iter : Expr} {ifs : List Expr} {scope : Scope} {own : List (Str × Nat)} {pos spos : Pos} {src : Id'} {cnd : Bd} {mk mv : Ed}
theorem so_ndcE {g : TG} {tgd : Td} {vs : List Nat} (kp : ∀ i, Keeps B i)
    (hg : ∀ {Γ : En} {σ : L2.St} {w : Wd} {S : Sto} {v : V} {d : D} {Γ' : En} {R : L2.St → Hp → Prop}, w.Ok X.kw S → Rep X.kw w.r w.F v d → EnOk X.kw B w (wipeE Γ vs) (wipe σ vs) → tgd d (wipeE Γ vs) = some Γ' → (∀ σ', EnOk X.kw B w Γ' σ' → wipe σ' vs = wipe σ vs → R σ' w.H) → g v (wipe σ vs) w.H R)
    {σ : L2.St} {H : Hp} {Q : VK} (h : cE X.kw B W (mDc vs src tgd cnd mk mv) σ H Q) : tDcN X.kw (cI X.kw B W src) g (cB X.kw B W0 cnd) (cE X.kw B W0 mk) (cE X.kw B W0 mv) vs σ H Q := by
  obtain ⟨r0, F0, Γ, S, o, gg, q⟩ := h
  refine ⟨r0, F0, Γ, S, o, gg, PoI.ofBind q fun s S1 w1 J _ t1 o1 hs q1 D0 hD => ?_⟩
  exact so_ndc (hg := fun a b c d e => hg a b c d e) kp o1 (gg.step t1) hs q1 D0 hD
/-- the target: names in a tuple -/
theorem hgT {is : List Nat} {vs : List Nat} (kp : ∀ i, Keeps B i) (hm : ∀ i ∈ is, i ∈ vs) {Γ : En} {σ : L2.St} {w : Wd} {S : Sto} {v : V} {d : D} {Γ' : En} {R : L2.St → Hp → Prop} (o : w.Ok X.kw S) (r : Rep X.kw w.r w.F v d) (g : EnOk X.kw B w (wipeE Γ vs) (wipe σ vs))
    (e : gT is d (wipeE Γ vs) = some Γ') (q : ∀ σ', EnOk X.kw B w Γ' σ' → wipe σ' vs = wipe σ vs → R σ' w.H) : gTup X.kw is.length (gSeq is) v (wipe σ vs) w.H R := by
  cases d with
  | tup xs =>
    have e : gNs is xs _ = some Γ' := e
    obtain ⟨a, us, rfl, h1, h2⟩ := tup_at o r
    refine ⟨a, us, rfl, h1, by rw [h2.len]; exact gNs_len e, gSeq_wipe kp hm ?_ g h2 e q⟩
    have w1 : ∀ (us : List Nat) (τ : L2.St), wipe (wipe τ us) us = wipe τ us := by
      intro us τ
      refine List.ext_getElem? fun j => ?_
      have g2 : ∀ (us : List Nat) (τ : L2.St) (j : Nat), (wipe τ us)[j]? = if j ∈ us then (if j < τ.length then some none else none) else τ[j]? := by
        intro us
        induction us with
        | nil => intro τ j; simp [wipe]
        | cons b us ihu =>
          intro τ j
          show ((wipe τ us).set b none)[j]? = _
          by_cases hb : j = b
          · subst hb
            rw [if_pos (List.mem_cons_self ..)]
            by_cases hlt : j < τ.length
            · rw [if_pos hlt, List.getElem?_set_self (by rw [wipe_length]; exact hlt)]
            · rw [if_neg hlt, List.getElem?_eq_none (by rw [List.length_set, wipe_length]; omega)]
          · rw [List.getElem?_set_ne (Ne.symm hb), ihu]
            by_cases hm : j ∈ us
            · rw [if_pos hm, if_pos (List.mem_cons_of_mem _ hm)]
            · rw [if_neg hm, if_neg fun z => (List.mem_cons.mp z).elim hb hm]
      rw [g2, g2, wipe_length]
      by_cases hj : j ∈ us
      · rw [if_pos hj, if_pos hj]
      · rw [if_neg hj, if_neg hj]
    exact w1 vs σ
  | _ => cases e
theorem tr_ndcV {k : Nat} (hr : Room k X.A) (i : Nat) (own : List (Str × Nat)) {vs : List Nat} (kp : ∀ i, Keeps B i) (hc : X.calm = true) (hN : X.N.Nodup) (hi : TrI X B W tg iter src) (ok : BlkOk X.N X.env.scope scope own) (hvs : own.map (·.2) = vs) (hm : i ∈ vs)
    (hg : BlkT X scope fun Y => PG Y tg (gName i)) (ht : BlkT X scope fun Y => TrT Y B ifs cnd) (hk : BlkT X scope fun Y => Tr Y B W0 kx mk) (he : BlkT X scope fun Y => Tr Y B W0 vx mv) (hs : ∀ x, foldedSetIterable iter X.env x = pure x := by intro _; rfl) :
    Tr X B W (.DictComp kx vx [⟨tg, iter, ifs, 0⟩] scope pos) (mDc vs src (gN i) cnd mk mv) := by
  subst hvs
  exact imE (pe_ndc (tt := cB X.kw B W0 cnd) (tk := cE X.kw B W0 mk) (tv := cE X.kw B W0 mv) hr hc hN hi ok hg ht hk he hs) fun σ H Q h => so_ndcE kp (fun o r g e q => by cases e; exact q _ (g.set (kp i) r) (set_wipe hm)) h
theorem tr_ndcTV {k : Nat} (hr : Room k X.A) (is : List Nat) (own : List (Str × Nat)) {vs : List Nat} (kp : ∀ i, Keeps B i) (hc : X.calm = true) (hN : X.N.Nodup) (hi : TrI X B W tg iter src) (ok : BlkOk X.N X.env.scope scope own) (hvs : own.map (·.2) = vs) (hm : ∀ i ∈ is, i ∈ vs)
    (hg : BlkT X scope fun Y => PG Y tg (gTup X.kw is.length (gSeq is))) (ht : BlkT X scope fun Y => TrT Y B ifs cnd) (hk : BlkT X scope fun Y => Tr Y B W0 kx mk) (he : BlkT X scope fun Y => Tr Y B W0 vx mv) (hs : ∀ x, foldedSetIterable iter X.env x = pure x := by intro _; rfl) :
    Tr X B W (.DictComp kx vx [⟨tg, iter, ifs, 0⟩] scope pos) (mDc vs src (gT is) cnd mk mv) := by
  subst hvs
  exact imE (pe_ndc (tt := cB X.kw B W0 cnd) (tk := cE X.kw B W0 mk) (tv := cE X.kw B W0 mv) hr hc hN hi ok hg ht hk he hs) fun σ H Q h => so_ndcE kp (fun o r g e q => hgT kp hm o r g e q) h
theorem asg_of {i : Nat} {t : TE} {m : Ed} (kp : Keeps B i) (h : ∀ σ H Q, cE X.kw B W m σ H Q → t σ H Q) : ∀ E σ H, cS X.kw B W (sAsg (gN i) m) E σ H → tAsg t (gName i) E σ H := fun E σ H h0 => by
  obtain ⟨r, F, Γ, S, o, g, q⟩ := h0
  refine h σ H _ ⟨r, F, Γ, S, o, g, PoS.bindE g q fun d S' w' v _ t o' rp q1 => ?_⟩
  exact q1.nxt o' ((g.step t).set kp rp)
theorem ts_setNdcV {k : Nat} (hr : Room k X.A) (i j : Nat) {y : Str} {py spos : Pos} (own : List (Str × Nat)) {vs : List Nat} (kp : ∀ i, Keeps B i) (hc : X.calm = true) (hN : X.N.Nodup) (hy : X.N[i]? = some y) (hyl : X.env.scope.names.lookup y = some .local)
    (hsw : swapsWith (.DictComp kx vx [⟨tg, iter, ifs, 0⟩] scope pos) (some (.Name y py)) spos.line X.env = pure true) (hi : TrI X B W tg iter src) (ok : BlkOk X.N X.env.scope scope own) (hvs : own.map (·.2) = vs) (hm : j ∈ vs)
    (hg : BlkT X scope fun Y => PG Y tg (gName j)) (ht : BlkT X scope fun Y => TrT Y B ifs cnd) (hk : BlkT X scope fun Y => Tr Y B W0 kx mk) (he : BlkT X scope fun Y => Tr Y B W0 vx mv) (hs : ∀ x, foldedSetIterable iter X.env x = pure x := by intro _; rfl) :
    TrS X B W (.Assign [.Name y py] (.DictComp kx vx [⟨tg, iter, ifs, 0⟩] scope pos) spos) (sAsg (gN i) (mDc vs src (gN j) cnd mk mv)) := by
  subst hvs
  exact imS (ps_setNdc (i := i) (tt := cB X.kw B W0 cnd) (tk := cE X.kw B W0 mk) (tv := cE X.kw B W0 mv) hr hc hN hy hyl hsw hi ok hg ht hk he hs) (asg_of (kp i) fun σ H Q h => so_ndcE kp (fun o r g e q => by cases e; exact q _ (g.set (kp j) r) (set_wipe hm)) h)
theorem ts_setNdcTV {k : Nat} (hr : Room k X.A) (i : Nat) (is : List Nat) {y : Str} {py spos : Pos} (own : List (Str × Nat)) {vs : List Nat} (kp : ∀ i, Keeps B i) (hc : X.calm = true) (hN : X.N.Nodup) (hy : X.N[i]? = some y) (hyl : X.env.scope.names.lookup y = some .local)
    (hsw : swapsWith (.DictComp kx vx [⟨tg, iter, ifs, 0⟩] scope pos) (some (.Name y py)) spos.line X.env = pure true) (hi : TrI X B W tg iter src) (ok : BlkOk X.N X.env.scope scope own) (hvs : own.map (·.2) = vs) (hm : ∀ i ∈ is, i ∈ vs)
    (hg : BlkT X scope fun Y => PG Y tg (gTup X.kw is.length (gSeq is))) (ht : BlkT X scope fun Y => TrT Y B ifs cnd) (hk : BlkT X scope fun Y => Tr Y B W0 kx mk) (he : BlkT X scope fun Y => Tr Y B W0 vx mv) (hs : ∀ x, foldedSetIterable iter X.env x = pure x := by intro _; rfl) :
    TrS X B W (.Assign [.Name y py] (.DictComp kx vx [⟨tg, iter, ifs, 0⟩] scope pos) spos) (sAsg (gN i) (mDc vs src (gT is) cnd mk mv)) := by
  subst hvs
  exact imS (ps_setNdc (i := i) (tt := cB X.kw B W0 cnd) (tk := cE X.kw B W0 mk) (tv := cE X.kw B W0 mv) hr hc hN hy hyl hsw hi ok hg ht hk he hs) (asg_of (kp i) fun σ H Q h => so_ndcE kp (fun o r g e q => hgT kp hm o r g e q) h)
theorem swD_true {gs : List Comprehension} {py : Pos} {y : Str} {l : Nat} {env : Env} (hk : env.scope.kind = .function) (hy : env.scope.names.lookup y = some .local) (hl : (py.line == pos.line) = true)
    (ha : (scope.names.any fun (n, k) => n == y && (k == .local || k == .cell)) = false) : swapsWith (.DictComp kx vx gs scope pos) (some (.Name y py)) l env = pure true := by
  have ky : env.kindOf y = some .local := hy
  have hb : env.blockKind = .function := by unfold Env.blockKind; rw [hk]; rfl
  unfold swapsWith
  simp only [hb, ky, ha, Expr.pos, hl]
  rfl
end
end Fx
end

section
set_option Elab.async false
set_option linter.all false
set_option maxRecDepth 100000
set_option maxHeartbeats 4000000
/-! sorted: pairs of ints; keys of a dict that are such pairs -/
namespace Fx
open PySem PySem.Spec PyProof.Rows L2
variable [Nam]
section
variable {α β : Type}
def insO (lt : α → α → Bool) (x : α) : List α → List α
  | [] => [x]
  | y :: l => if lt y x = true then y :: insO lt x l else x :: y :: l
def isortO (lt : α → α → Bool) : List α → List α
  | [] => []
  | x :: l => insO lt x (isortO lt l)
theorem insO_perm (lt : α → α → Bool) (x : α) : ∀ l, (insO lt x l).Perm (x :: l)
  | [] => List.Perm.refl _
  | y :: l => by
    unfold insO
    split
    · exact ((insO_perm lt x l).cons y).trans (List.Perm.swap x y l)
    · exact List.Perm.refl _
theorem isortO_perm (lt : α → α → Bool) : ∀ l, (isortO lt l).Perm l
  | [] => List.Perm.refl _
  | x :: l => (insO_perm lt x _).trans ((isortO_perm lt l).cons x)
theorem insO_srtd {lt : α → α → Bool} (O : SrtO.Swo lt) (x : α) : ∀ {l}, SrtO.Srtd lt l → SrtO.Srtd lt (insO lt x l)
  | [], _ => List.pairwise_singleton _ _
  | y :: l, h => by
    unfold insO
    have h0 := List.pairwise_cons.mp h
    split
    · rename_i hy
      refine List.pairwise_cons.mpr ⟨fun z hz => ?_, insO_srtd O x h0.2⟩
      rcases List.mem_cons.mp ((insO_perm lt x l).mem_iff.mp hz) with e | e
      · rw [e]; exact O.asym _ _ hy
      · exact h0.1 z e
    · rename_i hy
      have hy : lt y x = false := by cases q : lt y x <;> first | rfl | exact absurd q hy
      refine List.pairwise_cons.mpr ⟨fun z hz => ?_, h⟩
      rcases List.mem_cons.mp hz with e | e
      · rw [e]; exact hy
      · exact O.tr x y z hy (h0.1 z e)
theorem isortO_srtd {lt : α → α → Bool} (O : SrtO.Swo lt) : ∀ l, SrtO.Srtd lt (isortO lt l)
  | [] => List.Pairwise.nil
  | x :: l => insO_srtd O x (isortO_srtd O l)
theorem insO_cls {lt : α → α → Bool} (O : SrtO.Swo lt) (x z : α) : ∀ l, (insO lt x l).filter (SrtO.eqv lt z) = (x :: l).filter (SrtO.eqv lt z)
  | [] => rfl
  | y :: l => by
    unfold insO
    split
    · rename_i hy
      have ih := insO_cls O x z l
      rw [List.filter_cons, ih, List.filter_cons, List.filter_cons, List.filter_cons]
      by_cases h1 : SrtO.eqv lt z y = true
      · by_cases h2 : SrtO.eqv lt z x = true
        · have e1 := SrtO.eqv_iff.mp h1
          have e2 := SrtO.eqv_iff.mp h2
          have := O.tr x z y e2.1 e1.2
          rw [hy] at this
          cases this
        · rw [if_pos h1, if_neg h2, if_neg h2, if_pos h1]
      · by_cases h2 : SrtO.eqv lt z x = true
        · rw [if_neg h1, if_pos h2, if_pos h2, if_neg h1]
        · rw [if_neg h1, if_neg h2, if_neg h2, if_neg h1]
    · rfl
theorem isortO_stb {lt : α → α → Bool} (O : SrtO.Swo lt) : ∀ l, SrtO.Stb lt (isortO lt l) l
  | [] => SrtO.Stb.refl _
  | x :: l => ⟨isortO_perm lt _, fun z => by
    have ih := (isortO_stb O l).cls z
    show (insO lt x (isortO lt l)).filter _ = _
    rw [insO_cls O, List.filter_cons, List.filter_cons, ih]⟩
/-- there is one stable sorted list -/
theorem isortO_uniq {lt : α → α → Bool} (O : SrtO.Swo lt) {l ys : List α} (h1 : SrtO.Srtd lt ys) (h2 : SrtO.Stb lt ys l) : ys = isortO lt l := by
  have h3 := isortO_stb O l
  exact SrtO.stb_uniq O h1 (isortO_srtd O l) (h2.trans ⟨h3.perm.symm, fun x => (h3.cls x).symm⟩)
theorem insO_pair {R : α → β → Prop} {lt : α → α → Bool} {gt : β → β → Bool} (h : ∀ a b c d, R a b → R c d → lt a c = gt b d) {x : α} {y : β} (hx : R x y) : ∀ {l : List α} {m : List β}, Paired R l m → Paired R (insO lt x l) (insO gt y m)
  | [], [], .nil => .cons hx .nil
  | a :: l, b :: m, .cons ha hs => by
    unfold insO
    rw [h a b x y ha hx]
    split
    · exact .cons ha (insO_pair h hx hs)
    · exact .cons hx (.cons ha hs)
theorem isortO_pair {R : α → β → Prop} {lt : α → α → Bool} {gt : β → β → Bool} (h : ∀ a b c d, R a b → R c d → lt a c = gt b d) : ∀ {l : List α} {m : List β}, Paired R l m → Paired R (isortO lt l) (isortO gt m)
  | [], [], .nil => .nil
  | a :: l, b :: m, .cons ha hs => insO_pair h ha (isortO_pair h hs)
end
/-- the two ints of a pair -/
def pkD : D → Option (Int × Int)
  | .tup [.int i, .int j] => some (i, j)
  | _ => none
def pkG (d : D) : Int × Int := (pkD d).getD (0, 0)
def ltD (a b : D) : Bool := SrtO.lexB (pkG a) (pkG b)
def sortD (xs : List D) : List D := isortO ltD xs
section
variable {X : Cx} {pins : List (Addr × Obj)} {σ : L2.St} {H : Hp} {s : Shared}
/-- the values, each a pair of ints that stands there -/
def PairsV (K : PySem.W.Frag) (H : Hp) (k : V → Int × Int) (xs : List V) : Prop := ∀ x ∈ xs, ∃ t, x = V.ref t ∧ SqT K H t [.int (k x).1, .int (k x).2]
theorem PairsV.is (I : Inv X pins σ H s) {k : V → Int × Int} {xs : List V} {us : List Value} (h : PairsV X.K H k xs) (r : Vals xs us) : xs = us.map backV ∧ (∀ u ∈ us, ∃ a, u = Value.ref a) ∧ ∀ u ∈ us, Srt.IsPair s.heap u (k (backV u)).1 (k (backV u)).2 := by
  obtain ⟨e1, e2⟩ := refs_back r fun x m => let ⟨t, e, _⟩ := h x m; ⟨t, e⟩
  refine ⟨e1, e2, fun u hu => ?_⟩
  obtain ⟨t, rfl⟩ := e2 u hu
  have hm : V.ref t ∈ xs := by rw [e1]; exact List.mem_map.mpr ⟨_, hu, rfl⟩
  obtain ⟨t', e, ht⟩ := h _ hm
  cases e
  obtain ⟨its, rv, ⟨o, ho, hc, n, hd⟩, _⟩ := I.tuple ht
  obtain ⟨u1, u2, rfl, ri, rj⟩ := vals2 rv
  obtain ⟨t1, rfl⟩ := ri
  obtain ⟨t2, rfl⟩ := rj
  exact ⟨t, o, t1, t2, n, rfl, ho, hc, hd⟩
def PairR (K : PySem.W.Frag) (H : Hp) (x : V) (p : Int × Int) : Prop := ∃ t, x = V.ref t ∧ SqT K H t [.int p.1, .int p.2]
def ltZ {α : Type} (a b : α × (Int × Int)) : Bool := SrtO.lexB a.2 b.2
def rSortQ (K : Kw) : List V → Hp → VK → Prop := fun vs H Q => ∃ (a : Addr) (xs : List V) (ps : List (Int × Int)), vs = [V.ref a] ∧ (SqL K H a xs ∨ ∃ l, NdAt K H a l ∧ xs = l.map fun e => V.ref e.2.1) ∧ Paired (PairR K H) xs ps ∧ ∀ p, H p = none → Q (.ref p) (upd H p (.lst ((isortO ltZ (xs.zip ps)).map (·.1))))
open Classical in
/-- the two ints that stand at a value -/
noncomputable def kOf (K : PySem.W.Frag) (H : Hp) (v : V) : Int × Int := if h : ∃ p, PairR K H v p then h.choose else (0, 0)
theorem kOf_eq (I : Inv X pins σ H s) {v : V} {p : Int × Int} (h : PairR X.K H v p) : kOf X.K H v = p := by
  have hx : ∃ p, PairR X.K H v p := ⟨p, h⟩
  unfold kOf
  rw [dif_pos hx]
  obtain ⟨t, e, h1⟩ := h
  obtain ⟨t', e', h2⟩ := hx.choose_spec
  rw [e] at e'
  cases e'
  have z := I.tuple_inj h1 h2
  have z1 : p.1 = hx.choose.1 := by injection z with a b; injection a
  have z2 : p.2 = hx.choose.2 := by injection z with a b; injection b with a b; injection a
  exact (Prod.ext z1 z2).symm
theorem pairs_k (I : Inv X pins σ H s) : ∀ {xs : List V} {ps : List (Int × Int)}, Paired (PairR X.K H) xs ps → PairsV X.K H (kOf X.K H) xs ∧ Paired (fun x z => x = z.1 ∧ kOf X.K H x = z.2) xs (xs.zip ps)
  | _, _, .nil => ⟨fun x hx => (nomatch hx), .nil⟩
  | x :: xs, p :: ps, .cons h hs => by
    obtain ⟨h1, h2⟩ := pairs_k I hs
    have e := kOf_eq I h
    refine ⟨fun y hy => ?_, .cons ⟨rfl, e⟩ h2⟩
    rcases List.mem_cons.mp hy with rfl | hy
    · rw [e]; exact h
    · exact h1 y hy
theorem pairs_sort (I : Inv X pins σ H s) {xs : List V} {ps : List (Int × Int)} (h : Paired (PairR X.K H) xs ps) : isortO (ltP (kOf X.K H)) xs = (isortO ltZ (xs.zip ps)).map (·.1) := by
  have z := isortO_pair (R := fun x z => x = z.1 ∧ kOf X.K H x = z.2) (lt := ltP (kOf X.K H)) (gt := ltZ) (fun a b c d h1 h2 => by unfold ltZ; rw [← h1.2, ← h2.2]) (pairs_k I h).2
  clear h
  generalize isortO (ltP (kOf X.K H)) xs = l at z
  generalize isortO ltZ (xs.zip ps) = m at z
  induction z with
  | nil => rfl
  | cons h _ ih => rw [List.map_cons, ih, h.1]
/-- what is laid at the end -/
theorem sort_end (I : Inv X pins σ H s) {Q : VK} {k : V → Int × Int} {xs : List V} {us out : List Value} {h' : Heap} {d : Addr} {tk n : Nat} (e1 : xs = us.map backV) (e2 : ∀ u ∈ us, ∃ a, u = Value.ref a) (hz : xs.length ≤ sizeLine)
    (h1 : SrtO.Srtd (fun v u => SrtO.lexB (k (backV v)) (k (backV u))) out) (h2 : SrtO.Stb (fun v u => SrtO.lexB (k (backV v)) (k (backV u))) out us) (kp : ∀ b o, s.heap.get? b = some o → h'.get? b = some o) (hd : s.heap.objs.size ≤ d) (hn : h'.get? d = some (seqObj "list" out.toArray n))
    (q : ∀ p, H p = none → Q (.ref p) (upd H p (.lst (isortO (ltP k) xs)))) : EP X pins σ Q (.ref d) { s with heap := h', toks := tk } := by
  have h3 : ∀ u ∈ out, ∃ a, u = Value.ref a := fun u hu => e2 u (h2.perm.mem_iff.mp hu)
  have hb : SrtO.Stb (ltP k) (out.map backV) xs := by
    rw [e1]
    exact SrtO.Stb.map (ltP_swo k) backV h2
  have hu : out.map backV = isortO (ltP k) xs := isortO_uniq (ltP_swo k) (SrtO.srtd_map h1) hb
  refine ⟨.ref d, upd H d (.lst (isortO (ltP k) xs)), I.laid (t' := tk) kp hd ⟨?_, out, n, ?_, hn⟩, rfl, q d (I.hok.fresh hd)⟩
  · rw [← hu, hb.len]; exact hz
  · rw [← hu]; exact vals_back h3
theorem vals_keys : ∀ l : List NEnt, Vals (l.map fun e => V.ref e.2.1) (l.map fun e => Value.ref e.2.1)
  | [] => .nil
  | x :: l => .cons rfl (vals_keys l)
theorem cr_sortQ (hcalm : X.calm = true) : CallR X (.builtin "sorted") (rSortQ X.kw) := by
  intro pins s σ H vs us Q I r h
  obtain ⟨a, xs, ps, rfl, hs, hps, q⟩ := h
  have hx := (pairs_k I hps).1
  rw [← pairs_sort I hps] at q
  generalize kOf X.K H = k at hx q
  obtain ⟨u, rfl, ru⟩ := vals1 r
  obtain rfl : u = Value.ref a := ru
  rcases hs with hs | ⟨l, hs, exl⟩
  · obtain ⟨its, rv, hl, hz⟩ := I.list hs
    obtain ⟨e1, e2, e3⟩ := hx.is I rv
    refine SrtO.sorted_pairsO (k := fun u => k (backV u)) hl.isList (by rw [← rv.length]; exact hz) e3 fun h' d out h1 h2 kp hd hn => ?_
    obtain ⟨n, hn⟩ := hn
    exact sort_end (tk := s.toks) I e1 e2 hz h1 h2 kp hd hn q
  · obtain ⟨hz, hd, ys, rel, dd⟩ := hs.get I
    obtain ⟨o, es, ep, ho, hex, hdat, hes, hks, hnd⟩ := dd
    have hraw : s.heap.DictRaw a es ep := ⟨o, ho, hex, hdat⟩
    have hsz : es.size = l.length := by
      have : es.toList.length = l.length := by rw [hes, List.length_map, Paired.length rel]
      simpa using this
    refine Calls.call_function_entry PyProof.Rows.kind_sorted PyProof.Rows.plain_sorted PyProof.Rows.entry_sorted (PyProof.Rows.args_sorted1 _) ?_
    unfold Builtin.«sorted»
    refine wpAny_bind (m := checkCount "sorted" 1 1 _) (wpAny_pure ?_)
    refine wpAny_bind (PySem.W.kdu_collect (A := X.A.in1) (PySem.KdlSrc.rawDict hd) (I.ok.hd hcalm) hraw (by rw [hsz]; exact hz) fun h' tk acc hk hacc => ?_)
    -- the collected values are the keys' tuples
    have hal : acc.toList.length = l.length := by rw [Array.length_toList, hacc.1, hsz]
    have rv : Vals xs acc.toList := by
      have key : ∀ (n : Nat), acc.toList[n]? = (l[n]?).map fun e => Value.ref e.2.1 := fun n => by
        by_cases hn : n < l.length
        · have hn2 : n < acc.toList.length := by rw [hal]; exact hn
          obtain ⟨hi, ev⟩ := hacc.2 n acc.toList[n] (by rw [← Array.getElem?_toList]; exact List.getElem?_eq_getElem hn2)
          have he : es.toList[n]? = (ys[n]?).map fun x => (⟨x.1.hash X.w, .ref x.2.1, x.2.2⟩ : DictEntry) := by rw [hes, List.getElem?_map]; rfl
          have hn3 : n < ys.length := by rw [← Paired.length rel]; exact hn
          have hes2 : es.toList[n]? = some es[n] := by rw [Array.getElem?_toList]; exact Array.getElem?_eq_getElem hi
          rw [hes2, List.getElem?_eq_getElem hn3] at he
          have he : es[n] = ⟨ys[n].1.hash X.w, .ref ys[n].2.1, ys[n].2.2⟩ := Option.some.inj he
          have pr : ∀ {l : List NEnt} {ys : List (NestedKey × Addr × Value)}, NRel l ys → ∀ (n : Nat) (h1 : n < l.length) (h2 : n < ys.length), l[n].2.1 = ys[n].2.1 := by
            intro l ys r
            induction r with
            | nil => intro n h1; exact absurd h1 (by simp)
            | cons h _ ih =>
              intro n h1 h2
              cases n with
              | zero => exact h.2.1
              | succ n => exact ih n (by simpa using h1) (by simpa using h2)
          rw [List.getElem?_eq_getElem hn2, List.getElem?_eq_getElem hn, ev, he]
          show some (Value.ref ys[n].2.1) = some (Value.ref l[n].2.1)
          rw [pr rel n hn hn3]
        · rw [List.getElem?_eq_none (by rw [hal]; omega), List.getElem?_eq_none (by omega)]; rfl
      have e : acc.toList = l.map fun e => Value.ref e.2.1 := List.ext_getElem? fun n => by rw [key n, List.getElem?_map]
      rw [e, exl]
      exact vals_keys l
    have hzx : xs.length ≤ sizeLine := by rw [exl, List.length_map]; exact hz
    have I1 : Inv X pins σ H { s with heap := h', toks := tk } := I.kept hk
    obtain ⟨e1, e2, e3⟩ := hx.is I1 rv
    refine wpAny_bind (wpAny_newList ?_ (by rw [hal]; exact hz))
    have hoL : (h'.push (seqObj "list" acc.toList.toArray 0)).get? h'.objs.size = some (seqObj "list" acc.toList.toArray 0) := Heap.get?_push_size _ rfl
    show wpAny _ _ _ _ _ { s with heap := h'.push (seqObj "list" acc.toList.toArray 0), toks := tk }
    refine wpAny_bind (wpAny_holding (wpAny_call_entry PyProof.Rows.slot_list_sort ⟨_, hoL, rfl⟩ PyProof.Rows.entry_list_sort
      (SrtO.list_sort_ord (s := { s with heap := h'.push (seqObj "list" acc.toList.toArray 0), toks := tk }) (SrtO.swo_lex fun u => k (backV u)) hoL (by rw [hal]; exact hz)
        (fun h2 => SrtO.pairs_sortableO (by omega) (fun v hv => (e3 v hv).keeps fun b o e _ => Heap.get?_push_of_some _ e) fun o e => ?_) fun out h1 h2 => ⟨_, rfl, ?_⟩) (PyProof.Rows.args_list_sort _)))
    · have e' : some o = some (seqObj "list" acc.toList.toArray 0) := e.symm.trans hoL
      cases e'
      intro c
      exact absurd (Value.type.inj c) (by decide)
    · obtain ⟨ep', he'⟩ := PyProof.Rows.sortedHeap_at (vs := acc.toList) (out := out.toArray) hoL
      refine wpAny_pure ⟨_, rfl, sort_end (s := { s with heap := h', toks := tk }) (tk := tk) I1 e1 e2 hzx h1 h2 (fun b u e => ?_) (Nat.le_refl _) he' q⟩
      have hb : b < h'.objs.size := Heap.lt_size e
      rw [PyProof.Rows.sortedHeap_old (Nat.ne_of_lt hb) (by rw [size_push']; exact Nat.lt_succ_of_lt hb)]
      exact Heap.get?_push_of_some _ e
end
/-! the meaning -/
/-- what is sorted: a list's items, a dict's keys -/
def srcL (S : Sto) (d : D) : Option (List D) := match dDc S d with
  | some kvs => some (kvs.map (·.1))
  | none => dL S d
def fSorted : Fn := fun ds S => match ds with
  | [d] => match srcL S d with
    | some xs => if xs.all (fun x => (pkD x).isSome) = true then .ok (.lst (sortD xs)) S else .bad
    | none => .bad
  | _ => .bad
section
variable {K : Kw} {w : Wd} {S : Sto}
theorem pkD_eq {d : D} {i j : Int} (h : pkD d = some (i, j)) : d = .tup [.int i, .int j] := by
  unfold pkD at h
  split at h
  · cases h; rfl
  · cases h
theorem reps_pairs {r : List Addr} {F : Hp} : ∀ {vs : List V} {ds : List D}, Reps K r F vs ds → Paired (Rep K r F) vs ds
  | _, _, .nil => .nil
  | _, _, .cons h hs => .cons h (reps_pairs hs)
theorem pairs_reps {r : List Addr} {F : Hp} : ∀ {vs : List V} {ds : List D}, Paired (Rep K r F) vs ds → Reps K r F vs ds
  | _, _, .nil => .nil
  | _, _, .cons h hs => .cons h (pairs_reps hs)
theorem dc_keys {r : List Addr} {F : Hp} {l : List NEnt} {kvs : List (D × D)} (h : RepK K r F l kvs) : Paired (Rep K r F) (l.map fun e => V.ref e.2.1) (kvs.map (·.1)) := by
  unfold RepK at h
  induction h with
  | nil => exact .nil
  | cons h _ ih => exact .cons h.2.1 ih
theorem pair_rep {r : List Addr} {F H : Hp} (s : SubH F H) {v : V} {d : D} (h : Rep K r F v d) (e : (pkD d).isSome = true) : PairR K H v (pkG d) := by
  obtain ⟨⟨i, j⟩, e⟩ := Option.isSome_iff_exists.mp e
  have ed := pkD_eq e
  subst ed
  cases h with
  | @tup a vs ds h hs =>
    cases hs with
    | cons h1 t =>
      cases t with
      | cons h2 t =>
        cases t
        cases h1
        cases h2
        exact ⟨a, rfl, sqT_sub s h⟩
theorem srcL_at (o : w.Ok K S) {v : V} {d : D} (r : Rep K w.r w.F v d) {xs : List D} (e : srcL S d = some xs) : ∃ a vs, v = .ref a ∧ (SqL K w.H a vs ∨ ∃ l, NdAt K w.H a l ∧ vs = l.map fun e => V.ref e.2.1) ∧ Paired (Rep K w.r w.F) vs xs := by
  unfold srcL at e
  cases e1 : dDc S d with
  | some kvs =>
    rw [e1] at e
    cases e
    obtain ⟨a, l, rfl, h1, h2⟩ := dDc_at o r e1
    exact ⟨a, _, rfl, .inr ⟨l, h1, rfl⟩, dc_keys h2⟩
  | none =>
    rw [e1] at e
    obtain ⟨a, vs, rfl, h1, h2⟩ := dL_at o r e
    exact ⟨a, vs, rfl, .inl h1, reps_pairs h2⟩
theorem zip_rep {r : List Addr} {F H : Hp} (s : SubH F H) : ∀ {vs : List V} {ds : List D}, Paired (Rep K r F) vs ds → ds.all (fun x => (pkD x).isSome) = true → Paired (PairR K H) vs (ds.map pkG) ∧ Paired (fun z d => Rep K r F z.1 d ∧ z.2 = pkG d) (vs.zip (ds.map pkG)) ds
  | _, _, .nil, _ => ⟨.nil, .nil⟩
  | v :: vs, d :: ds, .cons h hs, e => by
    rw [List.all_cons, Bool.and_eq_true] at e
    obtain ⟨h1, h2⟩ := zip_rep s hs e.2
    exact ⟨.cons (pair_rep s h e.1) h1, .cons ⟨h, rfl⟩ h2⟩
theorem so_sorted : SoC K (rSortQ K) fSorted := by
  intro W w σ S xs ds Q o rs h
  cases rs with
  | nil => exact h.elim
  | @cons v vs d ds r rs =>
    cases rs with
    | cons _ _ => exact h.elim
    | nil =>
      unfold fSorted at h
      dsimp only at h
      cases e1 : srcL S d with
      | none => rw [e1] at h; exact h.elim
      | some xs =>
        rw [e1] at h
        dsimp only at h
        split at h
        · rename_i hall
          obtain ⟨a, us, rfl, h1, h2⟩ := srcL_at o r e1
          obtain ⟨h3, h4⟩ := zip_rep o.sub h2 hall
          refine ⟨a, us, xs.map pkG, rfl, h1, h3, fun p hp => ?_⟩
          have z := isortO_pair (lt := ltZ) (gt := ltD) (fun a b c d q1 q2 => by unfold ltZ ltD; rw [q1.2, q2.2]) h4
          have z2 : Reps K w.r w.F ((isortO ltZ (us.zip (xs.map pkG))).map (·.1)) (sortD xs) := by
            unfold sortD
            generalize isortO ltZ (us.zip (xs.map pkG)) = l at z
            generalize isortO ltD xs = m at z
            clear h1 h2 h3 h4 h
            induction z with
            | nil => exact .nil
            | cons q _ ih => exact .cons q.1 ih
          exact mkL_ok (f := true) o h z2 p hp
        · exact h.elim
end
section
variable {X : Cx} {B : Bs} {W : WX} {e : Expr} {es : List Expr} {p pos : Pos} {mA : Ad}
theorem tr_sorted (hm : X.mg "sorted" = none) (ha : TrA X B W (e :: es) mA) (hc : X.calm = true := by rfl) (hg : Gl X "sorted" := by rfl) (he : starEach (e :: es) X.env = (false, eval e X.env) :: starEach es X.env := by rfl) (hpl : (backTo pos (starEach es X.env)).any (·.1) = false := by rfl) :
    Tr X B W (.Call (.Name "sorted" p) (e :: es) [] pos) (mBlt fSorted mA) := tr_blt (cr_sortQ hc) so_sorted hm (by decide +kernel) ha hg (by decide) (by decide) he hpl
end
end Fx
end

section
set_option Elab.async false
set_option linter.all false
set_option maxRecDepth 100000
set_option maxHeartbeats 4000000
namespace Fx
open PySem PySem.Spec PyProof.Rows L2
variable [Nam]
/-! ### what a for walks: a text, a tuple, a list -/
def iAny (a : Ed) : Id' := fun Γ S => (a Γ S).bind fun x S1 => match x with
  | .str z => .ok (.txt z) S1
  | .tup xs => .ok (.tup xs) S1
  | x => match dL S1 x with
    | some _ => .ok (.seq x) S1
    | none => .bad
section
variable {X : Cx} {B : Bs} {W : WX} {a b e tg : Expr} {es : List Expr} {p pos : Pos} {ma mb : Ed} {mA : Ad}
theorem ti_any (ha : Tr X B W a ma) : TrI X B W tg a (iAny ma) := by
  refine ⟨fun pins s σ H R I h => ?_⟩
  obtain ⟨r0, F0, Γ, S, o, g, q⟩ := h
  have lst : (∀ d S1, ma Γ S = .ok d S1 → (∀ z, d ≠ .str z) ∧ ∀ xs, d ≠ .tup xs) → wpAny (model X.prog X.w) X.A (eval a X.env) (fun v s1 => wpAny (model X.prog X.w) X.A (pyIter v) (PIE X pins σ tg R) X.xe s1) X.xe s := fun hd => by
    refine (pi_list ha).run pins s σ H R I ⟨r0, F0, Γ, S, o, g, PoI.bindE q fun d S1 w1 v ed t1 o1 rp1 q1 => ?_⟩
    obtain ⟨h1, h2⟩ := hd d S1 ed
    have q1 : PoI X.kw W w1 σ (match dL S1 d with | some _ => .ok (.seq d) S1 | none => .bad) R := by
      cases d with
      | str z => exact absurd rfl (h1 z)
      | tup xs => exact absurd rfl (h2 xs)
      | _ => exact q1
    cases e1 : dL S1 d with
    | none => rw [e1] at q1; exact q1.elim
    | some xs =>
      rw [e1] at q1
      obtain ⟨a, vs, rfl, h1, h2⟩ := dL_at o1 rp1 e1
      exact ⟨a, rfl, ⟨vs, h1⟩, q1 w1 _ (Step.refl _) o1 ⟨a, rfl, rp1⟩⟩
  cases e : ma Γ S with
  | bad => exact lst fun d S1 ed => by rw [e] at ed; cases ed
  | exc _ _ _ => exact lst fun d S1 ed => by rw [e] at ed; cases ed
  | ok d S1 =>
    by_cases h1 : ∃ z, d = .str z
    · obtain ⟨z, rfl⟩ := h1
      refine (pi_str ha).run pins s σ H R I ⟨r0, F0, Γ, S, o, g, PoI.bindE q fun d S2 w1 v ed t1 o1 rp1 q1 => ?_⟩
      rw [e] at ed
      cases ed
      cases rp1
      exact ⟨z, rfl, q1 w1 _ (Step.refl _) o1 rfl⟩
    · by_cases h2 : ∃ xs, d = .tup xs
      · obtain ⟨xs, rfl⟩ := h2
        refine (pi_tup ha).run pins s σ H R I ⟨r0, F0, Γ, S, o, g, PoI.bindE q fun d S2 w1 v ed t1 o1 rp1 q1 => ?_⟩
        rw [e] at ed
        cases ed
        obtain ⟨a, vs, rfl, h1, h2⟩ := tup_at o1 rp1
        exact ⟨a, rfl, ⟨vs, h1⟩, q1 w1 _ (Step.refl _) o1 ⟨a, rfl, rp1⟩⟩
      · exact lst fun d' S2 ed => by
          rw [e] at ed
          cases ed
          exact ⟨fun z ez => h1 ⟨z, ez⟩, fun xs ez => h2 ⟨xs, ez⟩⟩
end
/-! ### isinstance -/
inductive TyY (K : Kw) (H : Hp) : V → Value → Prop where
  | base {v : V} {t : Value} (h : TyX K H v t) : TyY K H v t
  | nd {a : Addr} {l : List NEnt} (h : NdAt K H a l) : TyY K H (.ref a) (.type "dict")
theorem kit_of2 {X : Cx} {pins : List (Addr × Obj)} {σ : L2.St} {H : Hp} {s : Shared} {x : V} {u t : Value} (I : Inv X pins σ H s) (rx : RelV x u) (ty : TyY X.kw H x t) : ∃ P : Heap → Prop, PySem.W.KitX X.K u t P ∧ P s.heap ∧ u ≠ .builtin "__main__.__loader__#opaque" := by
  cases ty with
  | base h => exact kit_of I rx h
  | @nd a l h =>
    cases (show u = Value.ref a from rx)
    obtain ⟨_, _, xs, _, o, es, ep, h1, h2, _⟩ := h.get I
    exact ⟨_, PySem.W.kitx_dict, ⟨o, h1, h2.1⟩, fun z => nomatch z⟩
def rIsiY (K : Kw) : List V → Hp → VK → Prop := fun xs H Q => ∃ (x c : V) (t u : Value) (b : Bool), xs = [x, c] ∧ ClsV c u ∧ TyY K H x t ∧ PySem.W.kitOne K t u = some b ∧ Q (.bl b) H
def rIsiYT (K : Kw) : List V → Hp → VK → Prop := fun xs H Q => ∃ (x : V) (tp : Addr) (cs : List V) (t : Value) (us : List Value) (b : Bool), xs = [x, .ref tp] ∧ H tp = some (.tup cs) ∧ Paired ClsV cs us ∧ TyY K H x t ∧ PySem.W.kitAny K t us = some b ∧ Q (.bl b) H
theorem call_isiY {X : Cx} : CallR X (.builtin "isinstance") (rIsiY X.kw) := by
  intro pins s σ H xs us Q I r h
  obtain ⟨x, c, t, u, b, rfl, k, ty, e, q⟩ := h
  obtain ⟨u1, u2, rfl, r1, r2⟩ := vals2 r
  have e2 := k.eq r2
  subst e2
  obtain ⟨P, Z, p, hx⟩ := kit_of2 I r1 ty
  exact PySem.W.kia_one Z I.kIn p e hx fun tk => ⟨.bl b, H, I.tok tk, rfl, q⟩
def tyD2 (S : Sto) : D → Option String
  | .non => some "NoneType"
  | .bl _ => some "bool"
  | .int _ => some "int"
  | .str _ => some "str"
  | .opq _ => some "str"
  | .lst _ => some "list"
  | .fz _ => some "list"
  | .tup _ => some "tuple"
  | .ref n => match S[n]? with
    | some (.lst _) => some "list"
    | some (.dct _) => some "dict"
    | some (.fzd _) => some "dict"
    | _ => none
  | .dct _ _ => some "dict"
  | _ => none
theorem tyD2_ok {K : Kw} {w : Wd} {S : Sto} (o : w.Ok K S) {v : V} {d : D} (r : Rep K w.r w.F v d) {t : String} (e : tyD2 S d = some t) : TyY K w.H v (.type t) := by
  cases r with
  | non => cases e; exact .base (.base .non)
  | bl b => cases e; exact .base (.base (.bl b))
  | int i => cases e; exact .base (.base (.int i))
  | str x => cases e; exact .base (.base (.str x))
  | opq h => cases e; exact .base (.base (.str _))
  | lst h hs => cases e; exact .base (.base (.lst (o.sub _ _ h)))
  | fz h hs =>
    cases e
    rcases sqL_sub o.sub h with (h | ⟨ob, h⟩) | ⟨ob, its, n, h1, h2, _⟩
    · exact .base (.base (.lst h))
    · exact .base (.base (.frz h))
    · exact .base (.kList h1 h2)
  | tup h hs =>
    cases e
    rcases sqT_sub o.sub h with (h | ⟨ob, h⟩) | ⟨ob, its, n, h1, h2, _⟩
    · exact .base (.base (.tup h))
    · exact .base (.fTuple h)
    · exact .base (.kTuple h1 h2)
  | dct h _ _ _ => cases e; exact .base (.base (.dK (o.sub _ _ h)))
  | @ref a n h =>
    unfold tyD2 at e
    dsimp only at e
    split at e
    · rename_i xs hx
      cases e
      obtain ⟨vs, h1, _⟩ := o.obj n _ a hx h
      exact .base (.base (.lst h1))
    · rename_i xs hx
      cases e
      obtain ⟨l, h1, h2⟩ := o.obj n _ a hx h
      exact .nd ⟨.inl h1, h2.keys o.sub⟩
    · rename_i xs hx
      cases e
      obtain ⟨ob, l, h1, h2⟩ := o.obj n _ a hx h
      exact .nd ⟨.inr ⟨ob, h1⟩, h2.keys o.sub⟩
    · cases e
  | _ => cases e
def mIsiA (T : String) (e : Ed) : Ed := fun Γ S => (e Γ S).bind fun x S1 => match tyD2 S1 x with
  | some t => match kitB t T with
    | some b => .ok (.bl b) S1
    | none => .bad
  | none => .bad
section
variable {X : Cx} {B : Bs} {W : WX} {a b c e : Expr} {es : List Expr} {p p2 pos : Pos} {me ma mb : Ed} {mA : Ad}
theorem tr_isiA {x : Str} {T : String} (he : Tr X B W e me) (hm : X.mg "isinstance" = none) (hmx : X.mg x = none) (hv : bootBuiltins x = some (.type T)) (hg : Gl X "isinstance" := by rfl) (hgx : Gl X x := by rfl) (hn : x ≠ "__name__" := by decide)
    (hd : (x == ("__debug__" : Str)) = false := by decide) (hs : starEach [e, .Name x p2] X.env = (false, eval e X.env) :: starEach [.Name x p2] X.env := by rfl) (hs2 : starEach [.Name x p2] X.env = (false, eval (.Name x p2) X.env) :: starEach [] X.env := by rfl) (hpl : (backTo pos (starEach [.Name x p2] X.env)).any (·.1) = false := by rfl) :
    Tr X B W (.Call (.Name "isinstance" p) [e, .Name x p2] [] pos) (mIsiA T me) := by
  refine imE (pe_callB call_isiY hg hm (by decide +kernel) (pa_cons he (pa_cons (pe_bltn (v := V.ty T) hgx hmx hv rfl hn hd) pa_nil hs2) hs) (by decide) (by decide) hs hpl) fun σ H Q h => ?_
  obtain ⟨r0, F0, Γ, S, oo, g, q⟩ := h
  refine ⟨r0, F0, Γ, S, oo, g, PoE.bindE q fun d S1 w1 v _ t1 o1 rp1 q1 => ?_⟩
  cases e1 : tyD2 S1 d with
  | none => rw [e1] at q1; exact q1.elim
  | some t =>
    rw [e1] at q1
    dsimp only at q1
    cases e2 : kitB t T with
    | none => rw [e2] at q1; exact q1.elim
    | some b =>
      rw [e2] at q1
      exact ⟨v, .ty T, .type t, .type T, b, rfl, .ty T, tyD2_ok o1 rp1 e1, kit_ty e2, q1.now o1 (.bl b)⟩
/-! ### == where one side is empty -/
def seqK (S : Sto) : D → Option (Bool × List D)
  | .tup xs => some (true, xs)
  | .lst xs => some (false, xs)
  | .ref n => match S[n]? with
    | some (.lst xs) => some (false, xs)
    | _ => none
  | _ => none
def eqE (S : Sto) (x y : D) : Option Bool := match seqK S x, seqK S y with
  | some (k, xs), some (j, ys) => if k = j ∧ (xs.isEmpty || ys.isEmpty) = true then some (xs.isEmpty && ys.isEmpty) else none
  | _, _ => none
def dEqA (n : Bool) (x y : D) (S : Sto) : Res D := match eqE S x y with
  | some b => .ok (.bl (if n then !b else b)) S
  | none => dEqG n x y S
def rEqE (K : Kw) (n : Bool) : R2 := fun x y H Q => ∃ p q xs ys, x = .ref p ∧ y = .ref q ∧ ((SqL K H p xs ∧ SqL K H q ys) ∨ (SqT K H p xs ∧ SqT K H q ys)) ∧ (xs.isEmpty || ys.isEmpty) = true ∧ Q (.bl (if n then !(xs.isEmpty && ys.isEmpty) else xs.isEmpty && ys.isEmpty)) H
theorem op_eqE {k : Nat} (hr : Room k X.A) : OpR X (compareOp .Eq) (rEqE X.kw false) := by
  intro pins s σ H x y v u Q I rx ry h
  obtain ⟨p, q, xs, ys, rfl, rfl, hs, hz, hq⟩ := h
  cases (show v = Value.ref p from rx)
  cases (show u = Value.ref q from ry)
  have hu : X.A.units < cLine := by have := room8 hr; omega
  rcases hs with ⟨h1, h2⟩ | ⟨h1, h2⟩
  · obtain ⟨a, ra, la, _⟩ := I.list h1
    obtain ⟨b, rb, lb, _⟩ := I.list h2
    cases ra with
    | nil => cases rb with
      | nil => exact SeqAt.eq_listAt (e := fun _ => true) la.isList lb.isList rfl hu (fun j h1 _ => absurd h1 (Nat.not_lt_zero _)) (fin_bl I hq (by simp))
      | cons _ _ => exact SeqAt.eq_list_lengthsAt la.isList lb.isList (by simp) hu (fin_bl I hq (by simp))
    | cons _ _ => cases rb with
      | nil => exact SeqAt.eq_list_lengthsAt la.isList lb.isList (by simp) hu (fin_bl I hq (by simp))
      | cons _ _ => cases hz
  · obtain ⟨a, ra, ⟨o1, ho1, hc1, n1, hd1⟩, _⟩ := I.tuple h1
    obtain ⟨b, rb, ⟨o2, ho2, hc2, n2, hd2⟩, _⟩ := I.tuple h2
    have t1 : s.heap.IsTuple p a.toArray := ⟨o1, ho1, hc1, n1, hd1⟩
    have t2 : s.heap.IsTuple q b.toArray := ⟨o2, ho2, hc2, n2, hd2⟩
    cases ra with
    | nil => cases rb with
      | nil => exact SeqAt.eq_tupleAt (e := fun _ => true) t1 t2 hu (fun j h1 _ => absurd h1 (Nat.not_lt_zero _)) (fin_bl I hq (by simp))
      | cons _ _ => exact SeqAt.eq_tupleAt (e := fun _ => true) t1 t2 hu (fun j h1 _ => absurd h1 (Nat.not_lt_zero _)) (fin_bl I hq (by simp))
    | cons _ _ => cases rb with
      | nil => exact SeqAt.eq_tupleAt (e := fun _ => true) t1 t2 hu (fun j _ h2 => absurd h2 (Nat.not_lt_zero _)) (fin_bl I hq (by simp))
      | cons _ _ => cases hz
theorem op_neE {k : Nat} (hr : Room k X.A) : OpR X (compareOp .NotEq) (rEqE X.kw true) := by
  intro pins s σ H x y v u Q I rx ry h
  obtain ⟨p, q, xs, ys, rfl, rfl, hs, hz, hq⟩ := h
  cases (show v = Value.ref p from rx)
  cases (show u = Value.ref q from ry)
  have hu : X.A.units < cLine := by have := room8 hr; omega
  rcases hs with ⟨h1, h2⟩ | ⟨h1, h2⟩
  · obtain ⟨a, ra, la, _⟩ := I.list h1
    obtain ⟨b, rb, lb, _⟩ := I.list h2
    cases ra with
    | nil => cases rb with
      | nil => exact SeqAt.RcNeAt.lists (e := fun _ => true) la.isList lb.isList rfl hu (fun j h1 _ => absurd h1 (Nat.not_lt_zero _)) _ _ _ _ (fin_bl I hq (by simp))
      | cons _ _ => exact SeqAt.RcNeAt.lists_lengths la.isList lb.isList (by simp) hu _ _ _ _ (fin_bl I hq (by simp))
    | cons _ _ => cases rb with
      | nil => exact SeqAt.RcNeAt.lists_lengths la.isList lb.isList (by simp) hu _ _ _ _ (fin_bl I hq (by simp))
      | cons _ _ => cases hz
  · obtain ⟨a, ra, ⟨o1, ho1, hc1, n1, hd1⟩, _⟩ := I.tuple h1
    obtain ⟨b, rb, ⟨o2, ho2, hc2, n2, hd2⟩, _⟩ := I.tuple h2
    have t1 : s.heap.IsTuple p a.toArray := ⟨o1, ho1, hc1, n1, hd1⟩
    have t2 : s.heap.IsTuple q b.toArray := ⟨o2, ho2, hc2, n2, hd2⟩
    cases ra with
    | nil => cases rb with
      | nil => exact SeqAt.RcNeAt.tuples (e := fun _ => true) t1 t2 hu (fun j h1 _ => absurd h1 (Nat.not_lt_zero _)) _ _ _ _ (fin_bl I hq (by simp))
      | cons _ _ => exact SeqAt.RcNeAt.tuples (e := fun _ => true) t1 t2 hu (fun j h1 _ => absurd h1 (Nat.not_lt_zero _)) _ _ _ _ (fin_bl I hq (by simp))
    | cons _ _ => cases rb with
      | nil => exact SeqAt.RcNeAt.tuples (e := fun _ => true) t1 t2 hu (fun j _ h2 => absurd h2 (Nat.not_lt_zero _)) _ _ _ _ (fin_bl I hq (by simp))
      | cons _ _ => cases hz
theorem so_eqA {K : Kw} {n : Bool} : SoR K (fun x y H Q => (∃ d e, Dp K H x d ∧ Dp K H y e ∧ SeqAt.shaped d = true ∧ SeqAt.shaped e = true ∧ Q (.bl (if n then !PyData.eqv d e else PyData.eqv d e)) H) ∨ rEqE K n x y H Q) (dEqA n) := by
  intro W w σ S x y d e Q o rx ry h
  unfold dEqA at h
  cases e1 : eqE S d e with
  | none => rw [e1] at h; exact .inl (so_eqG W w σ S x y d e Q o rx ry h)
  | some b =>
    rw [e1] at h
    dsimp only at h
    have sq : ∀ {v : V} {d : D} {k : Bool} {xs : List D}, Rep K w.r w.F v d → seqK S d = some (k, xs) → ∃ p vs, v = .ref p ∧ (if k = true then SqT K w.H p vs else SqL K w.H p vs) ∧ vs.isEmpty = xs.isEmpty := by
      intro v d k xs r e
      have em : ∀ {vs : List V} {xs : List D}, Reps K w.r w.F vs xs → vs.isEmpty = xs.isEmpty := fun r => by cases r <;> rfl
      cases r with
      | @tup p vs ds h hs => cases e; exact ⟨p, vs, rfl, by rw [if_pos rfl]; exact sqT_sub o.sub h, em hs⟩
      | @lst p vs ds h hs => cases e; exact ⟨p, vs, rfl, by rw [if_neg Bool.false_ne_true]; exact .of (o.sub _ _ h), em hs⟩
      | @ref p n h =>
        unfold seqK at e
        dsimp only at e
        split at e
        · rename_i ys hy
          cases e
          obtain ⟨vs, h1, h2⟩ := o.obj n _ p hy h
          exact ⟨p, vs, rfl, by rw [if_neg Bool.false_ne_true]; exact .of h1, em h2⟩
        · cases e
      | _ => cases e
    unfold eqE at e1
    cases q1 : seqK S d with
    | none => rw [q1] at e1; cases e1
    | some p1 =>
      cases q2 : seqK S e with
      | none => rw [q1, q2] at e1; cases e1
      | some p2 =>
        obtain ⟨k, xs⟩ := p1
        obtain ⟨j, ys⟩ := p2
        rw [q1, q2] at e1
        dsimp only at e1
        split at e1
        · rename_i hc
          cases e1
          obtain ⟨a, vs, rfl, h1, m1⟩ := sq rx q1
          obtain ⟨c, us, rfl, h2, m2⟩ := sq ry q2
          obtain ⟨rfl, hz⟩ := hc
          refine .inr ⟨a, c, vs, us, rfl, rfl, ?_, by rw [m1, m2]; exact hz, by rw [m1, m2]; exact h.now o (.bl _)⟩
          cases k with
          | true => exact .inr ⟨by simpa using h1, by simpa using h2⟩
          | false => exact .inl ⟨by simpa using h1, by simpa using h2⟩
        · cases e1
theorem op_eqA {k : Nat} (hr : Room k X.A) : OpR X (compareOp .Eq) (fun x y H Q => (∃ d e, Dp X.kw H x d ∧ Dp X.kw H y e ∧ SeqAt.shaped d = true ∧ SeqAt.shaped e = true ∧ Q (.bl (if false then !PyData.eqv d e else PyData.eqv d e)) H) ∨ rEqE X.kw false x y H Q) := OpR.or (op_eqD hr.units) (op_eqE hr)
theorem op_neA {k : Nat} (hr : Room k X.A) : OpR X (compareOp .NotEq) (fun x y H Q => (∃ d e, Dp X.kw H x d ∧ Dp X.kw H y e ∧ SeqAt.shaped d = true ∧ SeqAt.shaped e = true ∧ Q (.bl (if true then !PyData.eqv d e else PyData.eqv d e)) H) ∨ rEqE X.kw true x y H Q) := OpR.or (op_neD hr.units) (op_neE hr)
theorem tr_eqA {k : Nat} (hr : Room k X.A) (ha : Tr X B W a ma) (hb : Tr X B W b mb) : Tr X B W (.Compare a [.Eq] [b] pos) (mOp (dEqA false) ma mb) := tr_cmp (op_eqA hr) so_eqA ha hb
theorem tr_neA {k : Nat} (hr : Room k X.A) (ha : Tr X B W a ma) (hb : Tr X B W b mb) : Tr X B W (.Compare a [.NotEq] [b] pos) (mOp (dEqA true) ma mb) := tr_cmp (op_neA hr) so_eqA ha hb
theorem tb_eqA {k : Nat} (hr : Room k X.A) (ha : Tr X B W a ma) (hb : Tr X B W b mb) : TrB X B W (.Compare a [.Eq] [b] pos) (mT (mOp (dEqA false) ma mb)) := tb_cmp (op_eqA hr) so_eqA ha hb
theorem tb_neA {k : Nat} (hr : Room k X.A) (ha : Tr X B W a ma) (hb : Tr X B W b mb) : TrB X B W (.Compare a [.NotEq] [b] pos) (mT (mOp (dEqA true) ma mb)) := tb_cmp (op_neA hr) so_eqA ha hb
end
end Fx
end

section
set_option Elab.async false
set_option linter.all false
set_option maxRecDepth 100000
set_option maxHeartbeats 4000000
namespace Fx
open PySem PySem.Spec PyProof.Rows L2
variable [Nam]
section
variable {K : Kw}
theorem one_of {vs : List V} {ds : List D} {r : List Addr} {F : Hp} (h : Reps K r F vs ds) {d : D} (e : ds = [d]) : ∃ v, vs = [v] ∧ Rep K r F v d := by
  subst e
  cases h with
  | cons h t => cases t; exact ⟨_, rfl, h⟩
/-! ### list(x) -/
def fList (f : Bool) : Fn := fun ds S => match ds with
  | [d] => match dSq S d with
    | some xs => mkL f xs S
    | none => .bad
  | _ => .bad
theorem so_list {f : Bool} : SoC K (fun xs H Q => ∃ p ys, xs = [.ref p] ∧ (SqL K H p ys ∨ SqT K H p ys) ∧ ∀ l, H l = none → Q (.ref l) (upd H l (.lst ys))) (fList f) := by
  intro W w σ S xs ds Q o rs h
  unfold fList at h
  split at h
  · rename_i d
    obtain ⟨v, rfl, r⟩ := one_of rs rfl
    cases e : dSq S d with
    | none => rw [e] at h; exact h.elim
    | some xs =>
      rw [e] at h
      obtain ⟨p, vs, rfl, hp, hs⟩ := dSq_at o r e
      exact ⟨p, vs, rfl, hp.symm, fun l hl => mkL_ok o h hs l hl⟩
  · exact h.elim
/-! ### all, any; max, min, sum of a list of intsD -/
def bls : List D → Option (List Bool)
  | [] => some []
  | .bl b :: ds => (bls ds).map (b :: ·)
  | _ :: _ => none
theorem bls_ok {r : List Addr} {F : Hp} : ∀ {vs : List V} {ds : List D} {l : List Bool}, Reps K r F vs ds → bls ds = some l → vs = l.map V.bl
  | _, _, _, .nil, e => by cases e; rfl
  | v :: vs, d :: ds, l, .cons h hs, e => by
    cases h with
    | bl b =>
      rw [bls] at e
      cases e1 : bls ds with
      | none => rw [e1] at e; cases e
      | some m => rw [e1] at e; cases e; rw [bls_ok hs e1]; rfl
    | _ => cases e
def intsD : List D → Option (List Int)
  | [] => some []
  | .int b :: ds => (intsD ds).map (b :: ·)
  | _ :: _ => none
theorem intsD_ok {r : List Addr} {F : Hp} : ∀ {vs : List V} {ds : List D} {l : List Int}, Reps K r F vs ds → intsD ds = some l → vs = l.map V.int
  | _, _, _, .nil, e => by cases e; rfl
  | v :: vs, d :: ds, l, .cons h hs, e => by
    cases h with
    | int b =>
      rw [intsD] at e
      cases e1 : intsD ds with
      | none => rw [e1] at e; cases e
      | some m => rw [e1] at e; cases e; rw [intsD_ok hs e1]; rfl
    | _ => cases e
def fBls (g : List Bool → Bool) : Fn := fun ds S => match ds with
  | [d] => match (dL S d).bind bls with
    | some l => .ok (.bl (g l)) S
    | none => .bad
  | _ => .bad
theorem so_bls {g : List Bool → Bool} : SoC K (fun vs H Q => ∃ (a : Addr) (bs : List Bool), vs = [V.ref a] ∧ SqL K H a (bs.map V.bl) ∧ Q (.bl (g bs)) H) (fBls g) := by
  intro W w σ S xs ds Q o rs h
  unfold fBls at h
  split at h
  · rename_i d
    obtain ⟨v, rfl, r⟩ := one_of rs rfl
    cases e : dL S d with
    | none => rw [e] at h; exact h.elim
    | some xs =>
      rw [e, Option.bind_some] at h
      cases e2 : bls xs with
      | none => rw [e2] at h; exact h.elim
      | some l =>
        rw [e2] at h
        obtain ⟨p, vs, rfl, hp, hs⟩ := dL_at o r e
        exact ⟨p, l, rfl, by rw [← bls_ok hs e2]; exact hp, h.now o (.bl _)⟩
  · exact h.elim
def maxI : List Int → Int
  | [] => 0
  | [x] => x
  | x :: l => if maxI l > x then maxI l else x
def minI : List Int → Int
  | [] => 0
  | [x] => x
  | x :: l => if minI l < x then minI l else x
theorem maxI_mem : ∀ l : List Int, l ≠ [] → maxI l ∈ l ∧ ∀ y ∈ l, y ≤ maxI l
  | [], h => absurd rfl h
  | [x], _ => ⟨List.mem_cons_self, fun y hy => by have : y = x := by simpa using hy
                                                  subst this; exact Int.le_refl _⟩
  | x :: z :: l, _ => by
    obtain ⟨h1, h2⟩ := maxI_mem (z :: l) (by simp)
    rw [maxI]
    · split
      · rename_i hg
        refine ⟨List.mem_cons_of_mem _ h1, fun y hy => ?_⟩
        rcases List.mem_cons.mp hy with rfl | hy
        · omega
        · exact h2 y hy
      · rename_i hg
        refine ⟨List.mem_cons_self, fun y hy => ?_⟩
        rcases List.mem_cons.mp hy with rfl | hy
        · exact Int.le_refl _
        · have := h2 y hy; omega
    · simp
theorem minI_mem : ∀ l : List Int, l ≠ [] → minI l ∈ l ∧ ∀ y ∈ l, minI l ≤ y
  | [], h => absurd rfl h
  | [x], _ => ⟨List.mem_cons_self, fun y hy => by have : y = x := by simpa using hy
                                                  subst this; exact Int.le_refl _⟩
  | x :: z :: l, _ => by
    obtain ⟨h1, h2⟩ := minI_mem (z :: l) (by simp)
    rw [minI]
    · split
      · rename_i hg
        refine ⟨List.mem_cons_of_mem _ h1, fun y hy => ?_⟩
        rcases List.mem_cons.mp hy with rfl | hy
        · omega
        · exact h2 y hy
      · rename_i hg
        refine ⟨List.mem_cons_self, fun y hy => ?_⟩
        rcases List.mem_cons.mp hy with rfl | hy
        · exact Int.le_refl _
        · have := h2 y hy; omega
    · simp
def fMaxM (f2 : Fn) (g : List Int → Int) : Fn := fun ds S => match ds with
  | [d] => match (dL S d).bind intsD with
    | some [] => .bad
    | some l => .ok (.int (g l)) S
    | none => .bad
  | ds => f2 ds S
abbrev fMaxA : Fn := fMaxM fMax2 maxI
abbrev fMinA : Fn := fMaxM fMin2 minI
theorem so_maxM {f2 : Fn} {g : List Int → Int} {le : Int → Int → Prop} {r2 : List V → Hp → VK → Prop} (h2 : SoC K r2 f2) (hg : ∀ l, l ≠ [] → g l ∈ l ∧ ∀ y ∈ l, le y (g l)) (hu : ∀ l m, m ∈ l → (∀ y ∈ l, le y m) → m = g l) :
    SoC K (fun xs H Q => r2 xs H Q ∨ ∃ (a : Addr) (ns : List Int), xs = [V.ref a] ∧ SqL K H a (ns.map V.int) ∧ 0 < ns.length ∧ ∀ m, m ∈ ns → (∀ y, y ∈ ns → le y m) → Q (.int m) H) (fMaxM f2 g) := by
  intro W w σ S xs ds Q o rs h
  unfold fMaxM at h
  split at h
  · rename_i d
    obtain ⟨v, rfl, r⟩ := one_of rs rfl
    cases e : dL S d with
    | none => rw [e] at h; exact h.elim
    | some xs =>
      rw [e, Option.bind_some] at h
      cases e2 : intsD xs with
      | none => rw [e2] at h; exact h.elim
      | some l =>
        rw [e2] at h
        cases l with
        | nil => exact h.elim
        | cons x l =>
          dsimp only at h
          obtain ⟨p, vs, rfl, hp, hs⟩ := dL_at o r e
          refine .inr ⟨p, x :: l, rfl, by rw [← intsD_ok hs e2]; exact hp, Nat.zero_lt_succ _, fun m hm hl => ?_⟩
          rw [hu _ m hm hl]
          exact h.now o (.int _)
  · exact .inl (h2 W w σ S _ _ Q o rs h)
theorem so_maxA : SoC K (fun xs H Q => (∃ i j, xs = [.int i, .int j] ∧ Q (.int (if j > i then j else i)) H) ∨ rMax K xs H Q) fMaxA :=
  so_maxM (le := fun y m => y ≤ m) so_max2 maxI_mem fun l m hm hl => by
    have := maxI_mem l (by intro z; rw [z] at hm; cases hm)
    exact Int.le_antisymm (this.2 m hm) (hl _ this.1)
theorem so_minA : SoC K (fun xs H Q => (∃ i j, xs = [.int i, .int j] ∧ Q (.int (if j < i then j else i)) H) ∨ rMin K xs H Q) fMinA :=
  so_maxM (le := fun y m => m ≤ y) so_min2 minI_mem fun l m hm hl => by
    have := minI_mem l (by intro z; rw [z] at hm; cases hm)
    exact Int.le_antisymm (hl _ this.1) (this.2 m hm)
end
section
variable {X : Cx} {B : Bs} {W : WX} {a b c e : Expr} {es : List Expr} {p p2 pos : Pos} {me ma mb : Ed} {mA : Ad}
theorem tr_listc (f : Bool) (hm : X.mg "list" = none) (ha : TrA X B W (e :: es) mA) (hg : Gl X "list" := by rfl) (he : starEach (e :: es) X.env = (false, eval e X.env) :: starEach es X.env := by rfl) (hpl : (backTo pos (starEach es X.env)).any (·.1) = false := by rfl) :
    Tr X B W (.Call (.Name "list" p) (e :: es) [] pos) (mBlt (fList f) mA) := tr_blty call_list_of so_list hm (by decide +kernel) ha hg (by decide) (by decide) he hpl
theorem tr_all (hm : X.mg "all" = none) (ha : TrA X B W (e :: es) mA) (hc : X.calm = true := by rfl) (hg : Gl X "all" := by rfl) (he : starEach (e :: es) X.env = (false, eval e X.env) :: starEach es X.env := by rfl) (hpl : (backTo pos (starEach es X.env)).any (·.1) = false := by rfl) :
    Tr X B W (.Call (.Name "all" p) (e :: es) [] pos) (mBlt (fBls (fun l => l.all id)) mA) := tr_blt (cr_all hc) so_bls hm (by decide +kernel) ha hg (by decide) (by decide) he hpl
theorem tr_anyc (hm : X.mg "any" = none) (ha : TrA X B W (e :: es) mA) (hc : X.calm = true := by rfl) (hg : Gl X "any" := by rfl) (he : starEach (e :: es) X.env = (false, eval e X.env) :: starEach es X.env := by rfl) (hpl : (backTo pos (starEach es X.env)).any (·.1) = false := by rfl) :
    Tr X B W (.Call (.Name "any" p) (e :: es) [] pos) (mBlt (fBls (fun l => l.any id)) mA) := tr_blt (cr_any hc) so_bls hm (by decide +kernel) ha hg (by decide) (by decide) he hpl
theorem tr_maxA (hm : X.mg "max" = none) (ha : TrA X B W (e :: es) mA) (hc : X.calm = true := by rfl) (hg : Gl X "max" := by rfl) (he : starEach (e :: es) X.env = (false, eval e X.env) :: starEach es X.env := by rfl) (hpl : (backTo pos (starEach es X.env)).any (·.1) = false := by rfl) :
    Tr X B W (.Call (.Name "max" p) (e :: es) [] pos) (mBlt fMaxA mA) := tr_blt (CallR.or (call_max2 hc) (cr_max hc)) so_maxA hm (by decide +kernel) ha hg (by decide) (by decide) he hpl
theorem tr_minA (hm : X.mg "min" = none) (ha : TrA X B W (e :: es) mA) (hc : X.calm = true := by rfl) (hg : Gl X "min" := by rfl) (he : starEach (e :: es) X.env = (false, eval e X.env) :: starEach es X.env := by rfl) (hpl : (backTo pos (starEach es X.env)).any (·.1) = false := by rfl) :
    Tr X B W (.Call (.Name "min" p) (e :: es) [] pos) (mBlt fMinA mA) := tr_blt (CallR.or (call_min2 hc) (cr_min hc)) so_minA hm (by decide +kernel) ha hg (by decide) (by decide) he hpl
/-! ### list(range(..)) -/
def TrRg (X : Cx) (B : Bs) (W : WX) (e : Expr) (m : Ad) : Prop := ∃ t, PRg X e t ∧ ∀ σ H Q, (∃ r F Γ S, Wd.Ok X.kw ⟨r, F, H⟩ S ∧ EnOk X.kw B ⟨r, F, H⟩ Γ σ ∧ PoA X.kw W ⟨r, F, H⟩ σ (m Γ S) fun vs H1 => ∃ a b, ((vs = [.int b] ∧ a = 0) ∨ vs = [.int a, .int b]) ∧ Q a b H1) → t σ H Q
theorem rg_one (hm : X.mg "range" = none) (ha : Tr X B W a ma) (hg : Gl X "range" := by rfl) (na : starEach [a] X.env = (false, eval a X.env) :: starEach [] X.env := by rfl) : TrRg X B W (.Call (.Name "range" p) [a] [] pos) (aCons ma aNil) := by
  refine ⟨_, prg_1 hg hm ha na, fun σ H Q h => ?_⟩
  obtain ⟨r, F, Γ, S, o, g, q⟩ := h
  refine ⟨r, F, Γ, S, o, g, PoA.bindE q fun d S1 w1 v _ t1 o1 rp1 q1 => ?_⟩
  obtain ⟨n, i, h1, h2⟩ := q1 w1 [v] (Step.refl _) o1 (.cons rp1 .nil)
  rcases h1 with ⟨h1, rfl⟩ | h1
  · cases h1; exact ⟨i, rfl, h2⟩
  · cases h1
theorem rg_two (hm : X.mg "range" = none) (ha : Tr X B W a ma) (hb : Tr X B W b mb) (hg : Gl X "range" := by rfl) (na : starEach [a, b] X.env = (false, eval a X.env) :: starEach [b] X.env := by rfl)
    (nb : starEach [b] X.env = (false, eval b X.env) :: starEach [] X.env := by rfl) (hp : (backTo pos (starEach [b] X.env)).any (·.1) = false := by rfl) : TrRg X B W (.Call (.Name "range" p) [a, b] [] pos) (aCons ma (aCons mb aNil)) := by
  refine ⟨_, prg_2 hg hm ha hb na nb hp, fun σ H Q h => ?_⟩
  obtain ⟨r, F, Γ, S, o, g, q⟩ := h
  refine ⟨r, F, Γ, S, o, g, PoA.bindE q fun d S1 w1 v _ t1 o1 rp1 q1 => ?_⟩
  have q1' : PoA X.kw W w1 σ ((mb Γ S1).bind fun y S2 => .ok [d, y] S2) fun vs H1 => ∃ a b, ((vs = [V.int b] ∧ a = 0) ∨ vs = [V.int a, V.int b]) ∧ Q a b H1 := by
    unfold aCons aNil at q1
    cases e : mb Γ S1 with
    | ok y S2 => rw [e] at q1; exact q1
    | exc _ _ _ => rw [e] at q1; exact q1
    | bad => rw [e] at q1; exact q1
  refine ⟨w1.r, w1.F, Γ, S1, o1, g.step t1, PoA.bindE q1' fun d2 S2 w2 v2 _ t2 o2 rp2 q2 => ?_⟩
  obtain ⟨i, j, h1, h2⟩ := q2 w2 [v, v2] (Step.refl _) o2 (.cons (rp1.up t2.pre t2.sub) (.cons rp2 .nil))
  rcases h1 with ⟨h1, _⟩ | h1
  · cases h1
  · cases h1; exact ⟨i, j, rfl, rfl, h2⟩
def rgL (a b : Int) : List D := (List.range (b - a).toNat).map fun i => D.int (a + (i : Nat))
instance : ∀ a b, Decidable (RgOk a b) := fun a b => by unfold RgOk; infer_instance
def fLrg (f : Bool) (ds : List D) (S : Sto) : Res D := match ds with
  | [.int b] => if RgOk 0 b then mkL f (rgL 0 b) S else .bad
  | [.int a, .int b] => if RgOk a b then mkL f (rgL a b) S else .bad
  | _ => .bad
theorem reps_rg {K : Kw} {r : List Addr} {F : Hp} (a b : Int) : Reps K r F (rgV a b) (rgL a b) := by
  unfold rgV rgL
  generalize List.range (b - a).toNat = l
  induction l with
  | nil => exact .nil
  | cons x l ih => exact .cons (.int _) ih
theorem tr_listRg (f : Bool) (hm : X.mg "list" = none) (he : TrRg X B W e mA) (hc : X.calm = true := by rfl) (hg : Gl X "list" := by rfl) (na : starEach [e] X.env = (false, eval e X.env) :: starEach [] X.env := by rfl) : Tr X B W (.Call (.Name "list" p) [e] [] pos) (mBlt (fLrg f) mA) := by
  obtain ⟨t, h1, h2⟩ := he
  refine imE (pe_listRg hc hg hm h1 na) fun σ H Q h => h2 σ H _ ?_
  obtain ⟨r, F, Γ, S, o, g, q⟩ := h
  refine ⟨r, F, Γ, S, o, g, PoE.bindA q fun ds S1 w1 vs ed t1 o1 rp1 q1 => ?_⟩
  clear ed
  unfold fLrg at q1
  split at q1
  · rename_i b
    split at q1
    · rename_i hz
      obtain ⟨v, rfl, rv⟩ := one_of rp1 rfl
      cases rv
      exact ⟨0, b, .inl ⟨rfl, rfl⟩, hz, fun q hq => mkL_ok o1 q1 (reps_rg 0 b) q hq⟩
    · exact q1.elim
  · rename_i a b
    split at q1
    · rename_i hz
      cases rp1 with
      | cons r1 t =>
        cases t with
        | cons r2 t =>
          cases t
          cases r1
          cases r2
          exact ⟨a, b, .inr rfl, hz, fun q hq => mkL_ok o1 q1 (reps_rg a b) q hq⟩
    · exact q1.elim
  · exact q1.elim
end
end Fx
end

section
set_option Elab.async false
set_option linter.all false
set_option maxRecDepth 100000
set_option maxHeartbeats 4000000
/-! dict(pairs), d[k] = v, d.get(k, x), len(d), tuples as keys -/
namespace Fx
open PySem PySem.Spec PyProof.Rows L2
variable [Nam]
def mergeN (l more : List NEnt) : List NEnt := more.foldl (fun acc e => putN acc e.1 e.2.1 e.2.2) l
theorem NRel.merge : ∀ {more : List NEnt} {rs : List (NestedKey × Addr × Value)} {l : List NEnt} {xs : List (NestedKey × Addr × Value)}, NRel more rs → NRel l xs → NRel (mergeN l more) (storedAllH xs rs)
  | _, _, _, _, .nil, h => h
  | e :: more, f :: rs, l, xs, .cons h hs, r => by
    have z := r.put e.1 e.2.1 h.2.2
    have e1 : storedH xs e.1 e.2.1 f.2.2 = storedH xs f.1 f.2.1 f.2.2 := by rw [h.1, h.2.1]
    rw [e1] at z
    have z2 := NRel.merge hs z
    exact z2
theorem mergeN_len : ∀ (more l : List NEnt), (mergeN l more).length ≤ l.length + more.length
  | [], l => Nat.le_refl _
  | e :: more, l => by
    have h1 := mergeN_len more (putN l e.1 e.2.1 e.2.2)
    have h2 := putN_len l e.1 e.2.1 e.2.2
    show (mergeN (putN l e.1 e.2.1 e.2.2) more).length ≤ _
    rw [List.length_cons]
    omega
section
variable {X : Cx} {pins : List (Addr × Obj)} {σ : L2.St} {H : Hp} {s : Shared}
def PairN (K : PySem.W.Frag) (H : Hp) (p : Addr) (e : NEnt) : Prop := SqT K H p [.ref e.2.1, e.2.2] ∧ KeyAt K H e.2.1 e.1
theorem pairsN_of (I : Inv X pins σ H s) : ∀ {ps : List Addr} {l : List NEnt}, Paired (PairN X.K H) ps l → ∃ rs, NRel l rs ∧ (∀ x ∈ rs, (nestedKind X.prog X.w).is s.heap x.1 x.2.1) ∧
    ps.length = rs.length ∧ ∀ (j : Nat) (p : Addr) (x : NestedKey × Addr × Value), ps[j]? = some p → rs[j]? = some x → s.heap.IsTuple p #[.ref x.2.1, x.2.2]
  | _, _, .nil => ⟨[], .nil, fun x hx => (nomatch hx), rfl, fun j p x e => by simp at e⟩
  | p :: ps, e :: l, .cons h hs => by
    obtain ⟨rs, h1, h2, h3, h4⟩ := pairsN_of I hs
    obtain ⟨its, rv, ⟨o, ho, hc, n, hd⟩, _⟩ := I.tuple h.1
    obtain ⟨u1, u2, rfl, r1, r2⟩ := vals2 rv
    cases (show u1 = Value.ref e.2.1 from r1)
    refine ⟨(e.1, e.2.1, u2) :: rs, .cons ⟨rfl, rfl, r2⟩ h1, fun x hx => ?_, by rw [List.length_cons, List.length_cons, h3], fun j q x e1 e2 => ?_⟩
    · rcases List.mem_cons.mp hx with rfl | hx
      · exact h.2.is I
      · exact h2 x hx
    · cases j with
      | zero =>
        have e1 : p = q := by simpa using e1
        have e2 : (e.1, e.2.1, u2) = x := by simpa using e2
        subst e1
        subst e2
        exact ⟨o, ho, hc, n, hd⟩
      | succ j => exact h4 j q x (by simpa using e1) (by simpa using e2)
def rDictN (K : Kw) : List V → Hp → VK → Prop := fun xs H Q => ∃ (a : Addr) (ps : List Addr) (l : List NEnt), xs = [.ref a] ∧ SqL K H a (ps.map V.ref) ∧ Paired (PairN K H) ps l ∧ ∀ p, H p = none → Q (.ref p) (upd H p (NdO K.w p (mergeN [] l)))
theorem call_dictN {k : Nat} (hr : Room k X.A) (hcalm : X.calm = true) : CallR X (.type "dict") (rDictN X.kw) := by
  intro pins s σ H xs us Q I r h
  obtain ⟨a, ps, l, rfl, hq, hp, q⟩ := h
  obtain ⟨u, rfl, ru⟩ := vals1 r
  cases (show u = Value.ref a from ru)
  obtain ⟨its, rv, pl, hz⟩ := I.list hq
  have ei := refs_at rv
  subst ei
  obtain ⟨rs, rel, hks, hl, hpr⟩ := pairsN_of I hp
  obtain ⟨o, n, ho, hc, hd, hdat⟩ := pl
  rw [List.length_map] at hz
  have P := PairArg.list (prog := X.prog) (w := X.w) a (ps.map Value.ref).toArray (fun j => ps.getD j 0) (rs.map fun x => (Value.ref x.2.1, x.2.2))
  have hlen : (rs.map fun x => (Value.ref x.2.1, x.2.2)).length = rs.length := List.length_map _
  have hu := room8 hr
  refine call_dict_pairsH (knd := nestedKind X.prog X.w) (ps := rs) P (I.ok.hd hcalm) (show X.A.units + 1 + 1 + 8 < cLine from by have := hr.units; omega) ⟨⟨o, n, ho, hc, hd, hdat⟩, ?_, fun j k v e => ?_⟩ ⟨by rw [hlen], fun i key v e => ?_⟩ (fun h' hk x hx => ?_) (by rw [hlen, ← hl]; exact hz) fun h' tk dd hk => ?_
  · simp [hl]
  · rw [List.getElem?_map] at e
    cases e1 : rs[j]? with
    | none => rw [e1] at e; cases e
    | some x =>
      rw [e1] at e
      cases e
      have hj : j < ps.length := by rw [hl]; exact (List.getElem?_eq_some_iff.mp e1).1
      have e2 : ps[j]? = some ps[j] := List.getElem?_eq_getElem hj
      refine ⟨by simp [hj], .inl ?_⟩
      have := hpr j ps[j] x e2 e1
      simpa [hj] using this
  · have e : (rs.map fun x => (Value.ref x.2.1, x.2.2))[i]? = some (key, v) := e
    rw [List.getElem?_map] at e
    cases e1 : rs[i]? with
    | none => rw [e1] at e; cases e
    | some x =>
      rw [e1] at e
      cases e
      exact ⟨x.1, x.2.1, rfl, rfl⟩
  · exact ⟨NestedIs.at (fun b o vs n hb _ => hk b o (Nat.ne_of_lt (Heap.lt_size hb)) (by simp) hb) _ _ (hks x hx).1, (hks x hx).2⟩
  · have hm : (s.heap.objs.size == sysModules) = false := beq_eq_false_iff_ne.mpr (Nat.ne_of_gt I.big)
    obtain ⟨o2, es, ep, g1, g2, g3, g4, g5, g6⟩ := dd
    have hlm : (mergeN [] l).length ≤ sizeLine := by
      refine Nat.le_trans (mergeN_len l []) ?_
      rw [List.length_nil, Nat.zero_add, Paired.length rel, ← hl]
      exact hz
    refine ⟨.ref s.heap.objs.size, upd H s.heap.objs.size (NdO X.w s.heap.objs.size (mergeN [] l)), I.laid (t' := tk) (fun b o e => hk b o (by simp) e) (Nat.le_refl _) ⟨⟨hlm, hm, _, NRel.merge rel .nil, g6, o2, es, ep, g1, g2, g3, g4⟩, ⟨o2, g1⟩, fun t1 t2 p st => ?_⟩, rfl, q _ (I.hok.fresh (Nat.le_refl _))⟩
    obtain ⟨q1, q2, xs, q3, q4, o, es, ep, q5, q6⟩ := p
    exact ⟨q1, q2, xs, q3, q4, o, es, ep, st _ q5, q6⟩
def rLenN (K : Kw) : List V → Hp → VK → Prop := fun xs H Q => ∃ a l, xs = [V.ref a] ∧ NdAt K H a l ∧ Q (.int l.length) H
theorem call_lenN : CallR X (.builtin "len") (rLenN X.kw) := by
  intro pins s σ H xs us Q I r h
  obtain ⟨a, l, rfl, h, q⟩ := h
  obtain ⟨u, rfl, ru⟩ := vals1 r
  cases (show u = Value.ref a from ru)
  exact n_len I h fun t s' I' => ⟨.int l.length, H, I', ⟨t, rfl⟩, q⟩
end
/-! the meaning -/
def kvOf : D → Option (D × NestedKey × D)
  | .tup [k, v] => (keyT k).map fun q => (k, q, v)
  | _ => none
def kvsOf : List D → Option (List (D × NestedKey × D))
  | [] => some []
  | d :: ds => match kvOf d, kvsOf ds with
    | some x, some l => some (x :: l)
    | _, _ => none
def mergeKD (kvs : List (D × D)) (l : List (D × NestedKey × D)) : List (D × D) := l.foldl (fun acc e => putKD acc e.1 e.2.1 e.2.2) kvs
def fDictP : Fn := fun ds S => match ds with
  | [d] => match (dL S d).bind kvsOf with
    | some l => mkDc (mergeKD [] l) S
    | none => .bad
  | _ => .bad
section
variable {K : Kw} {w w0 : Wd} {W : WX} {σ : L2.St} {S : Sto}
theorem kvOf_ok {r : List Addr} {F H : Hp} (s : SubH F H) {v : V} {d : D} {x : D × NestedKey × D} (h : Rep K r F v d) (e : kvOf d = some x) : ∃ p en, v = .ref p ∧ PairN K H p en ∧ en.1 = x.2.1 ∧ keyT x.1 = some x.2.1 ∧ Rep K r F (.ref en.2.1) x.1 ∧ Rep K r F en.2.2 x.2.2 := by
  unfold kvOf at e
  split at e
  · rename_i kd vd
    cases e1 : keyT kd with
    | none => rw [e1] at e; cases e
    | some k =>
      rw [e1] at e
      cases e
      cases h with
      | @tup a vs _ ht hs =>
        cases hs with
        | @cons v1 _ _ _ r1 t =>
          cases t with
          | @cons v2 _ _ _ r2 t =>
            cases t
            obtain ⟨b, rfl, hk⟩ := rep_keyT s r1 e1
            exact ⟨a, (k, b, v2), rfl, ⟨sqT_sub s ht, hk⟩, rfl, e1, r1, r2⟩
  · cases e
theorem kvsOf_ok {r : List Addr} {F H : Hp} (s : SubH F H) : ∀ {vs : List V} {ds : List D} {l : List (D × NestedKey × D)}, Reps K r F vs ds → kvsOf ds = some l →
    ∃ ps en, vs = ps.map V.ref ∧ Paired (PairN K H) ps en ∧ Paired (fun (e : NEnt) (x : D × NestedKey × D) => e.1 = x.2.1 ∧ keyT x.1 = some x.2.1 ∧ Rep K r F (.ref e.2.1) x.1 ∧ Rep K r F e.2.2 x.2.2) en l
  | _, _, _, .nil, e => by cases e; exact ⟨[], [], rfl, .nil, .nil⟩
  | v :: vs, d :: ds, l, .cons h hs, e => by
    rw [kvsOf] at e
    cases e1 : kvOf d with
    | none => rw [e1] at e; cases e
    | some x =>
      cases e2 : kvsOf ds with
      | none => rw [e1, e2] at e; cases e
      | some m =>
        rw [e1, e2] at e
        cases e
        obtain ⟨p, en, rfl, h1, h2⟩ := kvOf_ok s h e1
        obtain ⟨ps, ens, rfl, h3, h4⟩ := kvsOf_ok s hs e2
        exact ⟨p :: ps, en :: ens, rfl, .cons h1 h3, .cons h2 h4⟩
theorem mergeK_rep {r : List Addr} {F : Hp} : ∀ {en : List NEnt} {l : List (D × NestedKey × D)} {l0 : List NEnt} {kvs : List (D × D)}, Paired (fun (e : NEnt) (x : D × NestedKey × D) => e.1 = x.2.1 ∧ keyT x.1 = some x.2.1 ∧ Rep K r F (.ref e.2.1) x.1 ∧ Rep K r F e.2.2 x.2.2) en l → RepK K r F l0 kvs → RepK K r F (mergeN l0 en) (mergeKD kvs l)
  | _, _, _, _, .nil, h => h
  | e :: en, x :: l, l0, kvs, .cons h hs, r => by
    have z := r.put h.2.1 h.2.2.1 h.2.2.2
    rw [← h.1] at z
    have z2 := mergeK_rep hs z
    show RepK K _ F (mergeN (putN l0 e.1 e.2.1 e.2.2) en) (mergeKD (putKD kvs x.1 x.2.1 x.2.2) l)
    rw [← h.1]
    exact z2
theorem mkDc_ok {kvs : List (D × D)} {l : List NEnt} {Q : VK} (o : w.Ok K S) (h : PoE K W w σ (mkDc kvs S) Q) (r : RepK K w.r w.F l kvs) (p : Addr) (hp : w.H p = none) : Q (.ref p) (upd w.H p (NdO K.w p l)) := by
  obtain ⟨o', t⟩ := o.mut (x := .dct kvs) hp (u := NdO K.w p l) ⟨l, upd_same, r.up (pre_app _ _) (SubH.refl _)⟩
  refine h _ _ t o' (.ref ?_)
  rw [List.getElem?_append_right (by rw [o.len]; exact Nat.le_refl _), o.len, Nat.sub_self]
  rfl
theorem so_dictP : SoC K (rDictN K) fDictP := by
  intro W w σ S xs ds Q o rs h
  unfold fDictP at h
  split at h
  · rename_i d
    obtain ⟨v, rfl, r⟩ := one_of rs rfl
    cases e : dL S d with
    | none => rw [e] at h; exact h.elim
    | some xs =>
      rw [e, Option.bind_some] at h
      cases e2 : kvsOf xs with
      | none => rw [e2] at h; exact h.elim
      | some l =>
        rw [e2] at h
        obtain ⟨p, vs, rfl, hp, hs⟩ := dL_at o r e
        obtain ⟨ps, en, rfl, h1, h2⟩ := kvsOf_ok o.sub hs e2
        exact ⟨p, ps, en, rfl, hp, h1, fun q hq => mkDc_ok o h (mergeK_rep h2 .nil) q hq⟩
  · exact h.elim
/-! len -/
def fLenA : Fn := fun ds S => match ds with
  | [d] => match dDc S d with
    | some kvs => .ok (.int kvs.length) S
    | none => fLen [d] S
  | ds => fLen ds S
theorem so_lenA : SoC K (fun xs H Q => ((∃ z, xs = [.str z] ∧ z.length ≤ sizeLine ∧ Q (.int z.length) H) ∨ (∃ p ys, xs = [.ref p] ∧ (SqL K H p ys ∨ SqT K H p ys) ∧ Q (.int ys.length) H)) ∨ rLenN K xs H Q) fLenA := by
  intro W w σ S xs ds Q o rs h
  unfold fLenA at h
  split at h
  · rename_i d
    cases e : dDc S d with
    | none => rw [e] at h; exact .inl (so_len W w σ S _ _ Q o rs h)
    | some kvs =>
      rw [e] at h
      obtain ⟨v, rfl, r⟩ := one_of rs rfl
      obtain ⟨a, l, rfl, h1, h2⟩ := dDc_at o r e
      exact .inr ⟨a, l, rfl, h1, by rw [h2.len]; exact h.now o (.int _)⟩
  · exact .inl (so_len W w σ S _ _ Q o rs h)
end
section
variable {X : Cx} {B : Bs} {W : WX} {a b c e f : Expr} {es : List Expr} {p p2 apos pos pos' : Pos} {me mo mf ma mb : Ed} {mA : Ad}
theorem tr_dictP {k : Nat} (hr : Room k X.A) (hm : X.mg "dict" = none) (ha : TrA X B W (e :: es) mA) (hc : X.calm = true := by rfl) (hg : Gl X "dict" := by rfl) (he : starEach (e :: es) X.env = (false, eval e X.env) :: starEach es X.env := by rfl) (hpl : (backTo pos (starEach es X.env)).any (·.1) = false := by rfl) :
    Tr X B W (.Call (.Name "dict" p) (e :: es) [] pos) (mBlt fDictP mA) := tr_blty (call_dictN hr hc) so_dictP hm (by decide +kernel) ha hg (by decide) (by decide) he hpl
theorem tr_lenA (hm : X.mg "len" = none) (ha : TrA X B W (e :: es) mA) (hg : Gl X "len" := by rfl) (he : starEach (e :: es) X.env = (false, eval e X.env) :: starEach es X.env := by rfl) (hpl : (backTo pos (starEach es X.env)).any (·.1) = false := by rfl) :
    Tr X B W (.Call (.Name "len" p) (e :: es) [] pos) (mBlt fLenA mA) := tr_blt (CallR.or call_lenA call_lenN) so_lenA hm PySem.boot_len ha hg (by decide) (by decide) he hpl
end
end Fx
end

section
set_option Elab.async false
set_option linter.all false
set_option maxRecDepth 100000
set_option maxHeartbeats 2000000
/-! a lambda without parameters, handed to a def that calls it -/
namespace Fx
open PySem PySem.Spec PyProof.Rows L2
variable [Nam]

section
variable {X : Cx} {pins : List (Addr × Obj)} {τ : L2.St} {G : Hp} {t : Shared}
abbrev LObj (X : Cx) (pa : Arguments) (bd : Expr) (sc : Scope) (pm : Value) (cc : Addr) (ctv : Value) : Obj := PySem.W.kla_obj "<lambda>" (X.env.qual ++ "<lambda>") pa bd sc (cloFrom X.env.cells sc.names []) pm cc ctv
/-- the called lambda, what it lets out told of the caller's slots -/
theorem lam_act {Ng : List Str} {qg : Str} {sg : Scope} {g fl cc : Addr} {cdg pm ctv : Value} {pa : Arguments} {bd : Expr} {sc : Scope} {k i : Nat} {a : Str} {pn : List (Addr × Obj)} {xe : Value → Shared → Prop} {W : WX} {Eg : XK} {tb : XK → TE} {p1 p2 : Pos}
    (J : Inv X pins τ G t) (L : LamX.LamS X.env.scope sc) (hob : t.heap.get? fl = some (LObj X pa bd sc pm cc ctv)) (hno : G fl = none) (hst : fl ∉ frs X.stack)
    (hbd : bindArgs (PySem.W.kla_fn "<lambda>" (X.env.qual ++ "<lambda>") pa bd sc (cloFrom X.env.cells sc.names []) pm (.ref cc) ctv) ⟨[], []⟩ = pure [])
    (tk : Takes ((cxOf (L2.CX X.prog X.w) X.prog X.w X.K X.mg X.base Ng qg sg g cdg X.A X.stack t G Eg).tr pn xe) W) (room : Room (k + 1) (X.A.deeper (envOfC qg sg t.heap.objs.size g cdg)))
    (hbody : ∀ (E : XK) (Ar : Around) (outer : List Env) (u : Shared) (H : Hp), Room k (Ar.deeper (LamX.lamEnv X sc u.heap.objs.size fl cc)) → PE (LamX.lamCx X Ar outer u H E sc fl cc) bd (tb E))
    (hN : Ng[i]? = some a) (hv : Vis sg a) (hd : (a == ("__debug__" : Str)) = false := by decide) (hcd : (a == ("__classdict__" : Str)) = false := by decide) :
    PE ((cxOf (L2.CX X.prog X.w) X.prog X.w X.K X.mg X.base Ng qg sg g cdg X.A X.stack t G Eg).tr pn xe) (.Call (.Name a p1) [] [] p2)
      (fun σ1 H1 Q => σ1[i]? = some (some (.ref fl)) ∧ H1 cc = some (LamX.CodeO cc (X.env.qual ++ "<lambda>")) ∧ tb (WE W σ1) τ H1 Q) := by
  refine ⟨fun pins1 t1 σ1 H1 Q J1 h => ?_⟩
  obtain ⟨h1, h2, h3⟩ := h
  have got := (pe_var (pos := p1) (i := i) hN hv hd hcd).run pins1 t1 σ1 H1 (fun v H2 => v = .ref fl ∧ H2 = H1) J1 ⟨.ref fl, h1, rfl, rfl⟩
  refine wpAny_Call_Name_kw (thn got fun u t2 ⟨v, H2, J2, rel, ev, eH⟩ => ?_)
  subst ev
  subst eH
  obtain rfl : u = Value.ref fl := rel
  have at2 : t2.heap.get? fl = some (LObj X pa bd sc pm cc ctv) := J2.base.keep fl _ hob hno hst (fun z => (nomatch (show fl ∈ ([] : List Addr) from z)))
  refine PySem.W.callWith_F0 ⟨_, _, _, _, at2⟩ ?_
  have un : Un (frs X.stack) [] G H2 t.heap t2.heap := J2.base
  obtain ⟨⟨ob, fs, tk0, y1, y2, y3⟩, _, _⟩ := J2.hok cc _ h2
  have run : codeAny (model X.prog X.w) (X.A.deeper (envOfC qg sg t.heap.objs.size g cdg)) (.call (.ref fl) ⟨[], []⟩) (CR (L2.CX X.prog X.w) (envOfC qg sg t.heap.objs.size g cdg :: X.stack) X.prog X.w H2 t2 Q (WE W σ1)) t2 := by
    refine PySem.W.kla_callFunE room.depth at2 rfl L.co L.gen rfl ⟨cc, ob, fs, tk0, rfl, y1, y2, y3⟩ ?_
    rw [hbd]
    refine wpAny_pure (wpAny_newFunctionEnv (fun y hy => (L.own y hy).2) (fun y hy => absurd hy (by simp)) (fun hp hns hsb => ⟨J2.nolimit.fresh _ hsb, ?_⟩) L.kind)
    show codeAny _ _ (.expr bd (LamX.lamEnv X sc t2.heap.objs.size fl cc)) _ _
    have kp : ∀ b o, t2.heap.get? b = some o → hp.get? b = some o := fun b o e => hsb.extBut b o (Nat.ne_of_lt (Heap.lt_size e)) (Heap.get?_push_of_some _ e)
    have J3 : Inv (LamX.lamCx X (X.A.deeper (envOfC qg sg t.heap.objs.size g cdg)) (envOfC qg sg t.heap.objs.size g cdg :: X.stack) t2 H2 (WE W σ1) sc fl cc) [] τ H2 { t2 with heap := hp, toks := t2.toks + ([] : List (Str × Value)).length } :=
      LamX.lam_start2 J L J2.env0 room.hd un hns kp
    refine PySem.W.kla_codeExpr (wpAny_mono ((hbody (WE W σ1) _ _ t2 H2 (room.deeper _)).run [] _ _ H2 Q J3 h3) (fun v t' hq => ?_) fun e t' hq => hq)
    obtain ⟨v', H', J', rv, q⟩ := hq
    exact ⟨v', H', J'.os, J'.bare, J'.base, J'.hok, rv, q⟩
  have lets := passAt tk σ1
  refine wpAny_call (codeAny_mono run fun r t' hq => ?_)
  cases r with
  | error e => exact lets pins1 H2 t2 e t' J2 hq
  | ok fl =>
    cases fl with
    | ret u => exact J2.after hq
    | next => exact hq.elim
    | brk => exact hq.elim
    | cont => exact hq.elim
end

end Fx
end

section
set_option Elab.async false
set_option linter.all false
set_option maxRecDepth 100000
set_option maxHeartbeats 2000000
/-! f(lambda: ..); defs that may ask for the tables and the guards -/
namespace Fx
open PySem PySem.Spec PyProof.Rows L2
variable [Nam]

def runE (Γ0 : En) (b : Sd) (S : Sto) : Res D := match b Γ0 S with
  | .nx _ S' => .ok .non S'
  | .rt d S' => .ok d S'
  | .ex c fs _ S' => .exc c fs S'
  | _ => .bad
/-- the def got f alone; its body b makes this of what the lambda does -/
def callL (n : Nat) (b : Ed → Sd) (m : Ed) : Ed := fun Γ S => runE (List.replicate n none) (b fun _ S => m Γ S) S
theorem PoE.any {K : Kw} {E : XK} {w : Wd} {σ σ' : L2.St} {r : Res D} {Q : VK} (h : PoE K (WE0 E) w σ r Q) : PoE K (WE0 E) w σ' r Q := by cases r <;> exact h
theorem PoE.we {K : Kw} {W : WX} {w : Wd} {σ σ' : L2.St} {r : Res D} {Q : VK} (h : PoE K W w σ r Q) : PoE K (WE0 (WE W σ)) w σ' r Q := by cases r <;> exact h
theorem ends_of {K : Kw} {Bg : Bs} {E : XK} {w : Wd} {σ : L2.St} {Γ0 : En} {S : Sto} {Q : VK} {b : Sd} (q : PoE K (WE0 E) w σ (runE Γ0 b S) Q) : PoS K Bg (WE0 E) w (b Γ0 S) { nx := fun _ H' => Q .non H', rt := Q } := by
  unfold runE at q
  cases e : b Γ0 S with
  | nx Γ' S' => rw [e] at q; exact fun w' σ' t o' g' => q w' .non t o' .non
  | rt d S' => rw [e] at q; exact q
  | bk Γ' S' => rw [e] at q; exact q.elim
  | ct Γ' S' => rw [e] at q; exact q.elim
  | ex c fs Γ' S' => rw [e] at q; exact fun w' σ' dx vs t o' g' e' r' => q w' dx vs t o' e' r'
  | bad => rw [e] at q; exact q.elim
theorem repO_co {K : Kw} {r : List Addr} {F H : Hp} {a : Addr} {o : O} (h : RepO K r F H a o) (q : Str) : H a ≠ some (LamX.CodeO a q) := fun z => by
  cases o with
  | lst ds => obtain ⟨vs, e, _⟩ := h; rw [e] at z; unfold LamX.CodeO at z; cases z
  | ins C fs => obtain ⟨dx, vs, e, _⟩ := h; rw [e] at z; unfold LamX.CodeO at z; cases z
  | dead => exact h.elim
  | dct kvs => obtain ⟨l, e, _⟩ := h; rw [e] at z; exact code_ne_nd (Option.some.inj z).symm
  | fzd kvs => obtain ⟨o, l, e, _⟩ := h; rw [e] at z; unfold LamX.CodeO at z; cases z
theorem Wd.Ok.noCode {K : Kw} {w : Wd} {S : Sto} (o : w.Ok K S) {c : Addr} {q : Str} (e : w.H c = some (LamX.CodeO c q)) : c ∉ w.r := fun hm => by
  obtain ⟨n, hn⟩ := List.getElem?_of_mem hm
  have hl : n < S.length := by rw [← o.len]; exact (List.getElem?_eq_some_iff.mp hn).1
  exact repO_co (o.obj n S[n] c (List.getElem?_eq_getElem hl) hn) q e
theorem code_ntb {c : Addr} {q : Str} (ps : Array Value) : LamX.CodeO c q ≠ .tbl ps := fun z => by unfold LamX.CodeO at z; cases z
/-- tables grew, all else is kept -/
theorem Wd.Ok.grown {K : Kw} {w : Wd} {S : Sto} (o : w.Ok K S) {H' : Hp} (x : LamX.ExtN w.H H') (tb : LamX.Tabs Nam.T w.H → LamX.Tabs Nam.T H') : (⟨w.r, w.F, H'⟩ : Wd).Ok K S ∧ Step w ⟨w.r, w.F, H'⟩ := by
  have at' : ∀ {n : Nat} {a : Addr}, w.r[n]? = some a → ∃ u, w.H a = some u ∧ (∀ ps, u ≠ .tbl ps) ∧ H' a = some u := fun {n a} hn => by
    have hl : n < S.length := by rw [← o.len]; exact (List.getElem?_eq_some_iff.mp hn).1
    have hr := o.obj n S[n] a (List.getElem?_eq_getElem hl) hn
    cases e : w.H a with
    | none => exact absurd e (o.there n a hn)
    | some u =>
      have nt : ∀ ps, u ≠ .tbl ps := fun ps z => repO_ntb hr ps (by rw [e, z])
      exact ⟨u, rfl, nt, x a u e nt⟩
  refine ⟨⟨fun a y e => x a y (o.sub a y e) fun ps z => o.ntb a ps (by rw [e, z]), o.len, o.nd, fun n y a e1 e2 => ?_, o.out, fun n a e2 => ?_, o.ntb⟩, ⟨List.prefix_refl _, SubH.refl _, fun a y e _ nt => x a y e nt, fun a y u e => x a _ e fun ps z => (nomatch z), fun a h n => ?_, tb, fun a h => .inl h, fun a h => .inl h⟩⟩
  · obtain ⟨u, h1, _, h2⟩ := at' e2
    exact (o.obj n y a e1 e2).up (List.prefix_refl _) (SubH.refl _) (h2.trans h1.symm)
  · obtain ⟨u, _, _, h2⟩ := at' e2
    show H' a ≠ none
    rw [h2]; simp
  · cases e : w.H a with
    | none => exact absurd e h
    | some u =>
      have nt : ∀ ps, u ≠ .tbl ps := fun ps z => n ps (by rw [e, z])
      show H' a ≠ none ∧ ∀ ps, H' a ≠ some (.tbl ps)
      rw [x a u e nt]
      exact ⟨by simp, fun ps z => nt ps (Option.some.inj z)⟩
section
variable {X : Cx} {B : Bs} {W : WX}
/-- x(lambda: body) -/
theorem tr_lamC {x a : Str} {st : Stmt} {g c P : Addr} {fd : FuncData} {Ng : List Str} {k : Nat} {b : Ed → Sd} {m : Ed} {pa : Arguments} {bd : Expr} {sc : Scope} {p lpos pos : Pos}
    (Fg : Fun X.K x x st g fd) (Sg : FnScope Ng [a] (defScope st)) (hb : Binds X.K fd [a] []) (hm : X.mg x = some (.ref g))
    (hC : ∀ (act : Ed) (cdv : Value) (A : Around) (outer : List Env) (s : Shared) (H : Hp) (E : XK) (Bg : Bs), (∀ i, i ≠ 0 → Keeps Bg i) → Room (k + 1) (A.deeper (envOfC x (defScope st) s.heap.objs.size g cdv)) → A = X.A →
      Takes (cxOf (L2.CX X.prog X.w) X.prog X.w X.K X.mg X.base Ng x (defScope st) g cdv A outer s H E) (WE0 E) →
      (∀ (W : WX) (pn : List (Addr × Obj)) (xe : Value → Shared → Prop) (p1 p2 : Pos), Takes ((cxOf (L2.CX X.prog X.w) X.prog X.w X.K X.mg X.base Ng x (defScope st) g cdv A outer s H E).tr pn xe) W →
        Tr ((cxOf (L2.CX X.prog X.w) X.prog X.w X.K X.mg X.base Ng x (defScope st) g cdv A outer s H E).tr pn xe) Bg W (.Call (.Name a p1) [] [] p2) act) →
      TrSs (cxOf (L2.CX X.prog X.w) X.prog X.w X.K X.mg X.base Ng x (defScope st) g cdv A outer s H E) Bg (WE0 E) (defBody st) (b act))
    (TB : LamX.TabB X.base X.mg c P) (hcode : X.env.code = .ref c) (hT : LamX.Tabs Nam.T B.w.H) (hmT : (P, X.env.qual ++ "<lambda>") ∈ Nam.T) (hu : ∀ p ∈ Nam.T, p.1 = P → p.2 = X.env.qual ++ "<lambda>") (tk : Takes X W)
    (hr : Room (k + 2) X.A) (L : LamX.LamS X.env.scope sc) (hdef : defaultsOf pa X.env = ([], []))
    (hbind : ∀ (q : Str) (cl : List (Str × Addr)) (pm cv ctv : Value), bindArgs (PySem.W.kla_fn "<lambda>" q pa bd sc cl pm cv ctv) ⟨[], []⟩ = pure [])
    (hbody : ∀ (A : Around) (outer : List Env) (s : Shared) (H : Hp) (E : XK) (f c' : Addr), Room k (A.deeper (LamX.lamEnv X sc s.heap.objs.size f c')) → Takes (LamX.lamCx X A outer s H E sc f c') (WE0 E) → Tr (LamX.lamCx X A outer s H E sc f c') B (WE0 E) bd m)
    (hva : Vis (defScope st) a := by first | exact .inl rfl | exact .inr (.inl rfl) | exact .inr (.inr rfl)) (hg : Gl X x := by rfl)
    (hdb : (x == ("__debug__" : Str)) = false := by decide) (hd : (a == ("__debug__" : Str)) = false := by decide) (hcd : (a == ("__classdict__" : Str)) = false := by decide) :
    Tr X B W (.Call (.Name x p) [.Lambda pa bd sc lpos] [] pos) (callL Ng.length b m) := by
  refine ⟨fun pins s σ H Q I h => ?_⟩
  obtain ⟨r, F0, Γ, S, o, gΓ, q⟩ := h
  have hNg : Ng[0]? = some a := by
    have z := Sg.pre
    cases Ng with
    | nil => cases z
    | cons n ns => simp at z; rw [z]; rfl
  refine wpAny_Call_Name_kw (ld_glob I hg hm ?_ hdb)
  refine PySem.W.callWith_K (h₀ := X.base) I.ok.mod.kin Fg.kp ?_ (by rfl) (by rfl)
  show wpAny _ _ (spliced ((false, eval (.Lambda pa bd sc lpos) X.env) :: backTo pos (starEach [] X.env))) _ _ s
  have tabs0 : LamX.Tabs Nam.T H := gΓ.1.1.tabs hT
  refine Calls.spliced_cons (LamX.lam_make2 I TB hcode hmT hu tabs0 hdef (L.has I.ok) fun f c' pm ctv H1 s' I1 ex1 T1 hf hfn hfr hco => ?_)
  refine Calls.spliced_nil ⟨I1.kIn, ?_⟩
  obtain ⟨o1, t1⟩ := o.grown ex1 (fun _ => T1)
  have g1 := gΓ.step t1
  have q1 : PoE X.kw W ⟨r, F0, H1⟩ σ (callL Ng.length b m Γ S) Q := PoE.step t1 q
  obtain ⟨oc, od, kV, doc, pmg, an, cdv, ct, osl, efd, lk, hcd2⟩ := Fg.ex
  subst efd
  have run : codeAny (model X.prog X.w) X.A (.call (.ref g) ⟨[.ref f], []⟩) (CR (L2.CX X.prog X.w) X.stack X.prog X.w H1 s' Q (WE W σ)) s' := by
    have hbd := hb s' [.ref f] I1.kIn rfl
    refine LamX.run_ofS (N := Ng) (ps := [a]) (us := [.ref f]) (vs := [.ref f]) lk hcd2 Sg hr I1.env0 hbd (.cons rfl .nil) rfl fun hr' => ?_
    let Bg : Bs := ⟨⟨r, F0, H1⟩, fun σ' => σ'[0]? = some (some (.ref f))⟩
    have kp : ∀ i, i ≠ 0 → Keeps Bg i := fun i hi σ' v e => by
      show (σ'.set i v)[0]? = _
      rw [List.getElem?_set_ne hi]
      exact e
    have hact : ∀ (W' : WX) (pn : List (Addr × Obj)) (xe : Value → Shared → Prop) (p1 p2 : Pos), Takes ((cxOf (L2.CX X.prog X.w) X.prog X.w X.K X.mg X.base Ng x (defScope st) g cdv X.A X.stack s' H1 (WE W σ)).tr pn xe) W' →
        Tr ((cxOf (L2.CX X.prog X.w) X.prog X.w X.K X.mg X.base Ng x (defScope st) g cdv X.A X.stack s' H1 (WE W σ)).tr pn xe) Bg W' (.Call (.Name a p1) [] [] p2) (fun _ S => m Γ S) := by
      intro W' pn xe p1 p2 tk'
      refine imE (lam_act (tb := fun E => cE X.kw B (WE0 E) m) I1 L hf hfn hfr (hbind _ _ _ _ _) tk' hr' (fun E A outer s2 H2 hr2 => hbody A outer s2 H2 E f c' hr2 (takes_of rfl rfl rfl rfl)) hNg hva hd hcd) fun σ2 H2 Q2 h2 => ?_
      obtain ⟨r2, F2, Γ2, S2, o2, g2, q2⟩ := h2
      refine ⟨g2.1.2, g2.1.1.frame c' _ hco (o1.noCode hco) code_ntb, r2, F2, Γ, S2, o2, g1.step g2.1.1, q2.we⟩
    refine ⟨_, hC _ cdv X.A X.stack s' H1 (WE W σ) Bg kp hr' rfl (takes_of rfl rfl rfl rfl) hact, r, F0, List.replicate Ng.length none, S, o1, ⟨⟨Step.refl _, ?_⟩, ?_, fun i d e => ?_⟩, ?_⟩
    · show (L2.start Ng [V.ref f])[0]? = _
      rfl
    · unfold L2.start
      have hl : 1 ≤ Ng.length := by
        have := (List.getElem?_eq_some_iff.mp hNg).1
        omega
      simp
      omega
    · rw [List.getElem?_replicate] at e
      split at e <;> cases e
    · exact ends_of (σ := σ) (PoE.we (σ := σ) (σ' := σ) q1)
  have lets := passAt tk σ
  refine wpAny_call (codeAny_mono run fun r s2 hq => ?_)
  cases r with
  | error e => exact lets pins H1 s' e s2 I1 hq
  | ok fl =>
    cases fl with
    | ret u => exact I1.after hq
    | next => exact hq.elim
    | brk => exact hq.elim
    | cont => exact hq.elim
end
end Fx
end

section
set_option Elab.async false
set_option linter.all false
set_option maxRecDepth 100000
set_option maxHeartbeats 2000000
/-! repr of plain things: the exact text, where no repr is under way -/
namespace Fx
open PySem PySem.Spec PyProof.Rows L2
variable [Nam]
mutual
def pyD : D → Option PyData
  | .non => some .none
  | .bl b => some (.bool b)
  | .int i => some (.int i)
  | .str x => some (.str x)
  | .tup ds => (pyDs ds).map .tuple
  | .lst ds => (pyDs ds).map .list
  | .fz ds => (pyDs ds).map .list
  | .dct [] [] => some (.dict [])
  | _ => none
def pyDs : List D → Option (List PyData)
  | [] => some []
  | d :: ds => match pyD d, pyDs ds with
    | some e, some es => some (e :: es)
    | _, _ => none
end
mutual
def noL : PyData → Bool
  | .list _ => false
  | .tuple xs => noLs xs
  | _ => true
def noLs : List PyData → Bool
  | [] => true
  | x :: xs => noL x && noLs xs
end
section
variable {X : Cx} {pins : List (Addr × Obj)} {σ : L2.St} {H F : Hp} {s : Shared} {r : List Addr}
mutual
theorem rep_reads (I : Inv X pins σ H s) (sub : SubH F H) : ∀ {v : V} {d : D} {u : Value} {e : PyData}, Rep X.kw r F v d → pyD d = some e → RelV v u → ∃ as, Reads s.heap u e as ∧ (noL e = true → sysModules ∉ as)
  | _, _, _, _, .non, he, rv => by cases he; cases (show _ = Value.none from rv); exact ⟨[], .none, fun _ => by simp⟩
  | _, _, _, _, .bl b, he, rv => by cases he; cases (show _ = Value.bool b from rv); exact ⟨[], .bool b, fun _ => by simp⟩
  | _, _, _, _, .int i, he, rv => by cases he; obtain ⟨t, rfl⟩ := (show ∃ t, _ = Value.int i t from rv); exact ⟨[], .int i t, fun _ => by simp⟩
  | _, _, _, _, .str x, he, rv => by cases he; obtain ⟨t, rfl⟩ := (show ∃ t, _ = Value.str x t from rv); exact ⟨[], .str x t, fun _ => by simp⟩
  | _, _, _, _, .tup (a := a) (ds := ds) h hs, he, rv => by
    rw [pyD] at he
    obtain ⟨es, e1, rfl⟩ := Option.map_eq_some_iff.mp he
    cases (show _ = Value.ref a from rv)
    obtain ⟨its, rvs, ⟨o, ho, hcl, n, hd⟩, _⟩ := I.tuple (sqT_sub sub h)
    obtain ⟨as, ra, ns⟩ := reps_reads I sub hs e1 rvs
    exact ⟨as, .tuple ho hcl hd ra, fun z => ns (by rw [noL] at z; exact z)⟩
  | _, _, _, _, .lst (a := a) (ds := ds) h hs, he, rv => by
    rw [pyD] at he
    obtain ⟨es, e1, rfl⟩ := Option.map_eq_some_iff.mp he
    cases (show _ = Value.ref a from rv)
    obtain ⟨its, rvs, ⟨o, n, ho, hcl, _, hd⟩, _⟩ := I.list (.inl (.inl (sub _ _ h)))
    obtain ⟨as, ra, ns⟩ := reps_reads I sub hs e1 rvs
    exact ⟨_, .list ho hcl hd ra, fun z => by rw [noL] at z; cases z⟩
  | _, _, _, _, .fz (a := a) (ds := ds) h hs, he, rv => by
    rw [pyD] at he
    obtain ⟨es, e1, rfl⟩ := Option.map_eq_some_iff.mp he
    cases (show _ = Value.ref a from rv)
    obtain ⟨its, rvs, ⟨o, n, ho, hcl, _, hd⟩, _⟩ := I.list (sqL_sub sub h)
    obtain ⟨as, ra, ns⟩ := reps_reads I sub hs e1 rvs
    exact ⟨_, .list ho hcl hd ra, fun z => by rw [noL] at z; cases z⟩
  | _, _, _, _, .ref _, he, _ => by cases he
  | _, _, _, _, .opq _, he, _ => by cases he
  | _, _, _, _, .adr _, he, _ => by cases he
  | _, _, _, _, .dct (a := a) (kvs := kvs) (ks := ks) (vs := vs) (ds := ds) h ek hl hs, he, rv => by
    cases (show _ = Value.ref a from rv)
    cases ks with
    | cons k ks =>
      cases ds <;> cases he
    | nil =>
      cases ds with
      | cons d ds => cases he
      | nil =>
        cases he
        cases vs with
        | cons _ _ => cases hl
        | nil =>
          have ek : kvs = [] := ek
          subst ek
          obtain ⟨_, hsm, vs', kv, o, es, ep, ho, hcl, hd, _, hes0, _⟩ := dk_of I.hok (sub _ _ h)
          cases kv
          have hes : es.toList = [] := by cases hq : es.toList with
            | nil => rfl
            | cons a b => rw [hq] at hes0; cases hes0
          refine ⟨[a] ++ [], .dict (as := []) (bs := []) ho hcl.1 hd ?_ ?_, fun _ => ?_⟩
          · rw [hes]; exact .nil
          · rw [hes]; exact .nil
          · have : a ≠ sysModules := by simpa using hsm
            simp
            exact fun z => this z.symm
theorem reps_reads (I : Inv X pins σ H s) (sub : SubH F H) : ∀ {vs : List V} {ds : List D} {us : List Value} {es : List PyData}, Reps X.kw r F vs ds → pyDs ds = some es → Vals vs us → ∃ as, ReadsAll s.heap us es as ∧ (noLs es = true → sysModules ∉ as)
  | _, _, _, _, .nil, he, .nil => by cases he; exact ⟨[], .nil, fun _ => by simp⟩
  | _, d :: ds, _, _, .cons h hs, he, .cons rv rvs => by
    rw [pyDs] at he
    cases e1 : pyD d with
    | none => rw [e1] at he; cases he
    | some e =>
      cases e2 : pyDs ds with
      | none => rw [e1, e2] at he; cases he
      | some es =>
        rw [e1, e2] at he
        cases he
        obtain ⟨a1, r1, n1⟩ := rep_reads I sub h e1 rv
        obtain ⟨a2, r2, n2⟩ := reps_reads I sub hs e2 rvs
        refine ⟨a1 ++ a2, .cons r1 r2, fun z => ?_⟩
        rw [noLs] at z
        simp only [Bool.and_eq_true] at z
        intro hm
        rcases List.mem_append.mp hm with q | q
        · exact n1 z.1 q
        · exact n2 z.2 q
end
end
/-- the text of a plain thing -/
def reprD (d : D) : Option Str := match pyD d with
  | some e => if e.showable = true ∧ e.shown.length ≤ sizeLine ∧ e.depth ≤ 64 ∧ (e.hasDict = true → noL e = true) then some e.shown else none
  | none => none
def fRepr : Fn := fun ds S => match ds with
  | [d] => match reprD d with
    | some t => .ok (.str t) S
    | none => .bad
  | _ => .bad
section
variable {X : Cx} {B : Bs} {W : WX} {e : Expr} {es : List Expr} {p pos : Pos} {mA : Ad}
theorem call_reprD {pins : List (Addr × Obj)} {σ : L2.St} {H : Hp} {s : Shared} {v : V} {u : Value} {d : PyData} {as : List Addr} {Q : VK} (I : Inv X pins σ H s) (un : X.A.units + 70 < cLine) (hg : X.A.guards = some []) (rv : RelV v u) (rd : Reads s.heap u d as) (h1 : d.showable = true) (h2 : d.shown.length ≤ sizeLine) (h3 : d.depth ≤ 64) (h4 : d.hasDict = true → sysModules ∉ as)
    (q : Q (.str d.shown) H) : wpAny (model X.prog X.w) X.A (call (.builtin "repr") [u]) (EP X pins σ Q) X.xe s := by
  have fin : ∀ (h' : Heap) (w : Tok) (tk : Nat), (∀ b o, s.heap.get? b = some o → h'.get? b = some o) → EP X pins σ Q (.str d.shown w) { s with heap := h', toks := tk } := fun h' w tk kp => ⟨.str d.shown, H, I.kept kp, ⟨_, rfl⟩, q⟩
  cases rd with
  | none => exact PySem.P.repr_of_none (fin s.heap _ _ fun _ _ e => e)
  | bool b => exact PySem.P.repr_of_bool (by have := fin s.heap s.toks (s.toks + 1) fun _ _ e => e; cases b <;> exact this)
  | int i t => exact PySem.P.repr_of_int (by simpa [PyData.showable] using h1) (fin s.heap _ _ fun _ _ e => e)
  | str x t => exact PySem.P.repr_of_str (fin s.heap _ _ fun _ _ e => e) (by simpa only [PyData.shown] using h2)
  | list a b c z => exact repr_of_reads' (Reads.list a b c z) h1 h4 hg (by omega) (fun _ _ e => e) (fun h' w tk kp => fin h' w tk kp) h2
  | tuple a b c z => exact repr_of_reads' (Reads.tuple a b c z) h1 h4 hg (by omega) (fun _ _ e => e) (fun h' w tk kp => fin h' w tk kp) h2
  | dict a b c z y => exact repr_of_reads' (Reads.dict a b c z y) h1 h4 hg (by omega) (fun _ _ e => e) (fun h' w tk kp => fin h' w tk kp) h2
def rRepr (K : Kw) (X : Cx) : List V → Hp → VK → Prop := fun xs H Q => ∃ r F v d t e, xs = [v] ∧ SubH F H ∧ Rep K r F v d ∧ pyD d = some e ∧ e.showable = true ∧ e.shown.length ≤ sizeLine ∧ e.depth ≤ 64 ∧ (e.hasDict = true → noL e = true) ∧ e.shown = t ∧ Q (.str t) H
theorem room_u {k : Nat} {A : Around} (hr : Room k A) : A.units + 70 < cLine := by have := hr.un; omega
theorem call_repr (hr : X.A.units + 70 < cLine) (hg : X.A.guards = some []) : CallR X (.builtin "repr") (rRepr X.kw X) := by
  intro pins s σ H xs us Q I rs h
  obtain ⟨r, F, v, d, t, e, rfl, sub, rp, h0, h1, h2, h3, h4, rfl, q⟩ := h
  cases rs with
  | cons rv r0 =>
    cases r0
    obtain ⟨as, rd, ns⟩ := rep_reads I sub rp h0 rv
    exact call_reprD I hr hg rv rd h1 h2 h3 (fun z => ns (h4 z)) q
theorem so_repr : SoC X.kw (rRepr X.kw X) fRepr := by
  intro W w σ S xs ds Q o rs h
  unfold fRepr at h
  split at h
  · rename_i d
    obtain ⟨v, rfl, r⟩ := one_of rs rfl
    unfold reprD at h
    cases e1 : pyD d with
    | none => rw [e1] at h; exact h.elim
    | some e =>
      rw [e1] at h
      dsimp only at h
      split at h
      · rename_i t ht
        split at ht
        · rename_i hh
          cases ht
          exact ⟨_, _, v, d, _, e, rfl, o.sub, r, e1, hh.1, hh.2.1, hh.2.2.1, hh.2.2.2, rfl, h.now o (.str _)⟩
        · cases ht
      · exact h.elim
  · exact h.elim
theorem tr_repr (hr : X.A.units + 70 < cLine) (hgu : X.A.guards = some []) (hm : X.mg "repr" = none) (ha : TrA X B W (e :: es) mA) (hg : Gl X "repr" := by rfl) (he : starEach (e :: es) X.env = (false, eval e X.env) :: starEach es X.env := by rfl) (hpl : (backTo pos (starEach es X.env)).any (·.1) = false := by rfl) :
    Tr X B W (.Call (.Name "repr" p) (e :: es) [] pos) (mBlt fRepr mA) := tr_blt (call_repr hr hgu) so_repr hm (by decide +kernel) ha hg (by decide) (by decide) he hpl
end
end Fx
end

section
set_option Elab.async false
set_option linter.all false
set_option maxRecDepth 100000
set_option maxHeartbeats 2000000
/-! defs that ask for tables of code objects and for an empty stack of reprs -/
namespace Fx
open PySem PySem.Spec PyProof.Rows L2
variable [Nam]
structure FnG (P : Program) (w : World) (K : PySem.W.Frag) (mg : Str → Option Value) (base : Heap) (k : Nat) (f : Addr) (fd : FuncData) (ps : List Str) (fn : Fn) : Prop where
  run : ∀ (A : Around) (outer : List Env) (s : Shared) (H : Hp) (as : Args) (us : List Value) (vs : List V) (Q : VK) (E : XK), Room k A → A.guards = some [] → Env0 P w K mg base A outer s H → BindsTo s fd as (ps.zip us) → Vals vs us → LamX.Tabs Nam.T H → SpF ⟨K, w⟩ ps.length fn vs H Q E →
    codeAny (model P w) A (.call (.ref f) as) (CR (L2.CX P w) outer P w H s Q E) s
section
variable {P : Program} {wd : World} {K : PySem.W.Frag} {mg : Str → Option Value} {base : Heap}
theorem fn_okG {x qual : Str} {st : Stmt} {f : Addr} {fd : FuncData} {N ps : List Str} {k : Nat} {b : Sd} (F : Fun K x qual st f fd) (S : FnScope N ps (defScope st))
    (h : ∀ (cdv : Value) (A : Around) (outer : List Env) (s : Shared) (H : Hp) (E : XK) (B : Bs), fd.code = cdv → (∀ i, Keeps B i) → Room k (A.deeper (envOfC qual (defScope st) s.heap.objs.size f cdv)) → A.guards = some [] → LamX.Tabs Nam.T B.w.H →
      Takes (cxOf (L2.CX P wd) P wd K mg base N qual (defScope st) f cdv A outer s H E) (WE0 E) → TrSs (cxOf (L2.CX P wd) P wd K mg base N qual (defScope st) f cdv A outer s H E) B (WE0 E) (defBody st) b) :
    FnG P wd K mg base (k + 1) f fd ps (runF N.length b) := by
  obtain ⟨oc, od, kV, doc, pm, an, cdv, ct, osl, rfl, lk, hcd⟩ := F.ex
  refine ⟨fun A outer s H as us vs Q E hr hg e0 hb rv hT hsp => ?_⟩
  refine LamX.run_ofS lk hcd S hr e0 hb rv (spf_len hsp) fun hr' => ?_
  obtain ⟨r, F0, S0, ds, o, rs, hl, q⟩ := hsp
  exact ⟨_, h cdv A outer s H E ⟨⟨r, F0, H⟩, fun _ => True⟩ rfl keeps_true hr' hg hT (takes_of rfl rfl rfl rfl), r, F0, enter N.length ds, S0, o, enter_ok rs, ends_of (σ := []) q⟩
end
section
variable {X : Cx} {B : Bs} {W : WX} {e : Expr} {es : List Expr} {p pos : Pos} {mA : Ad}
theorem tr_callG {k : Nat} {f : Addr} {fd : FuncData} {ps : List Str} {fn : Fn} {x : Str} (F : FnG X.prog X.w X.K X.mg X.base k f fd ps fn) (hr : Room k X.A) (hgu : X.A.guards = some []) (hT : LamX.Tabs Nam.T B.w.H) (hm : X.mg x = some (.ref f)) (hk : PySem.W.keepIn X.kw (.ref f) = true)
    (hb : Binds X.kw fd ps []) (tk : Takes X W) (ha : TrA X B W (e :: es) mA) (hg : Gl X x := by rfl) (hdb : (x == ("__debug__" : Str)) = false := by decide) (he : starEach (e :: es) X.env = (false, eval e X.env) :: starEach es X.env := by rfl)
    (hpl : (backTo pos (starEach es X.env)).any (·.1) = false := by rfl) : Tr X B W (.Call (.Name x p) (e :: es) [] pos) (mCall ps.length fn mA) := by
  refine ⟨fun pins s σ H Q I h => ?_⟩
  have h1 : cA X.kw B W mA σ H (fun vs H1 => LamX.Tabs Nam.T H1 ∧ vs.length = ps.length ∧ SpF X.kw ps.length fn vs H1 Q (WE W σ)) := by
    obtain ⟨r0, F0, Γ, S, o, g, q⟩ := h
    refine ⟨r0, F0, Γ, S, o, g, PoE.bindA q fun d S1 w1 v _ t1 o1 rp1 q1 => ?_⟩
    obtain ⟨hl, q2⟩ := arg_ok q1
    exact ⟨(g.step t1).1.1.tabs hT, by rw [rp1.len, hl], w1.r, w1.F, S1, d, o1, rp1, hl, q2.at0⟩
  refine wpAny_Call_Name_kw (ld_glob I hg hm ?_ hdb)
  refine PySem.W.callWith_K (h₀ := X.base) I.ok.mod.kin hk (thn (ha.run pos pins s σ H _ I h1) fun us s1 ⟨vs, H1, J, rv, hT1, hl1, hs1⟩ => ⟨J.kIn, ?_⟩) he hpl
  have hlu : us.length = ps.length := by rw [← rv.length]; exact hl1
  have bd := hb s1 us J.kIn (by rw [List.append_nil]; exact hlu)
  rw [List.append_nil] at bd
  refine wpAny_call (codeAny_mono (F.run X.A X.stack s1 H1 ⟨us, []⟩ us vs Q (WE W σ) hr hgu J.env0 bd rv hT1 hs1) fun res s2 hq => ?_)
  cases res with
  | error z => exact passAt tk σ pins H1 s1 z s2 J hq
  | ok fl =>
    cases fl with
    | ret u => exact J.after hq
    | next => exact hq.elim
    | brk => exact hq.elim
    | cont => exact hq.elim
end
end Fx
end

section
set_option Elab.async false
set_option linter.all false
set_option maxRecDepth 100000
set_option maxHeartbeats 2000000
/-! the end of a law whose def asks for tables and for an empty stack of reprs -/
namespace Fx
open PySem PySem.Spec PyProof.Rows L2
/-- the code objects and their tables, as they stand at the start -/
structure Tbs (K : PySem.W.Frag) (h : Heap) (l : List (Addr × Addr)) : Prop where
  new : ∀ z ∈ l, h.get? z.2 = some { cls := .none, data := .fields #[] }
  out : ∀ z ∈ l, K.lookup z.2 = none
  code : ∀ z ∈ l, PySem.W.CodeHd h z.1 z.2
/-- the heap that is known at the start: the script, unless it is written, and the tables -/
def initH (l : List (Addr × Addr)) (a : Addr) (u : Option HO) : Hp := fun b => if b ∈ l.map (·.2) then some (.tbl #[]) else if b = a then u else none
section
variable {P : Program} {wd : World} {K : PySem.W.Frag} {mg nb : Str → Option Value} {t : Shared} {l : List (Addr × Addr)}
theorem Tbs.at' (T : Tbs K t.heap l) {b : Addr} (m : b ∈ l.map (·.2)) : t.heap.get? b = some { cls := .none, data := .fields #[] } := by
  obtain ⟨z, hz, rfl⟩ := List.mem_map.mp m
  exact T.new z hz
/-- an object of another kind is hidden by nothing -/
theorem Tbs.seen (T : Tbs K t.heap l) {a b : Addr} {u : Option HO} {o : Obj} {xs : Array Value} (ha : t.heap.get? a = some { cls := .type "list", data := .seq xs }) (e : t.heap.get? b = some o) (n1 : ∀ vs n, o.data ≠ .seq vs n) (n2 : o.data ≠ .fields #[]) : initH l a u b = none := by
  unfold initH
  split
  · rename_i m
    rw [T.at' m] at e
    cases e
    exact absurd rfl n2
  · split
    · rename_i q
      rw [q, ha] at e
      cases e
      exact absurd rfl (n1 _ _)
    · rfl
theorem callG [Nam] {k : Nat} {fa a : Addr} {fd : FuncData} {x : Str} {fn : Fn} {ws : List Value} {is : List Int}
    (kin : K.In t.heap) (gns : t.heap.Ns mainGlobals mg) (bns : t.heap.Ns builtinsNs nb) (boot : ∀ x : Str, x ≠ "__name__" → nb x = bootBuiltins x) (nol : t.heap.NoLimit) (gen0 : t.gens = #[]) (T : Tbs K t.heap l)
    (bmod : ∃ (m : Addr) (ob : Obj), mg "__builtins__" = some (.ref m) ∧ m ≠ builtinsNs ∧ t.heap.get? m = some ob ∧ ob.cls = .type "module" ∧ ob.dict = some builtinsNs ∧ ob.data = .plain)
    (ha : t.heap.get? a = some { cls := .type "list", data := .seq ws.toArray }) (hi : IntsAre ws is) (short : is.length ≤ sizeLine) (room : Room k callerA)
    (ok : ∀ base : Heap, K.In base → base.Ns mainGlobals mg → (∀ z ∈ l, LamX.TabB base mg z.1 z.2) → FnG P wd K mg base k fa fd [x] fn) (bnd : ∀ (s : Shared) (u : Value), BindsTo s fd ⟨[u], []⟩ [(x, u)])
    (nm : ∀ z ∈ Nam.T, z.1 ∈ l.map (·.2)) (right : ∃ S, fn [.fz (is.map D.int)] [] = .ok (.bl true) S) :
    codeAny (model P wd) callerA (.call (.ref fa) ⟨[.ref a], []⟩) (fun r s' => r = .ok (.ret (.bool true)) ∧ PySem.OldK t.heap s'.heap ∧ s'.os = t.os ∧ AllBare s'.gens) t := by
  have rel := vals_ints hi
  have nta : a ∉ l.map (·.2) := fun z => by
    have q := T.at' z
    rw [ha] at q
    have q' : Data.seq ws.toArray _ = Data.fields #[] := congrArg Obj.data (Option.some.inj q)
    cases q'
  have any : ∀ u : Option HO, (∀ v, u = some v → v = .frz { cls := .type "list", data := .seq ws.toArray } (.lst (is.map V.int))) → (u ≠ none → K.lookup a = none) → SqL K (initH l a u) a (is.map V.int) →
      codeAny (model P wd) callerA (.call (.ref fa) ⟨[.ref a], []⟩) (fun r s' => r = .ok (.ret (.bool true)) ∧ PySem.OldK t.heap s'.heap ∧ s'.os = t.os ∧ AllBare s'.gens) t := by
    intro u hu hk hsq
    have atT : ∀ {b}, b ∈ l.map (·.2) → initH l a u b = some (.tbl #[]) := fun m => if_pos m
    have atA : initH l a u a = u := (if_neg nta).trans (if_pos rfl)
    have else' : ∀ {b}, b ∉ l.map (·.2) → b ≠ a → initH l a u b = none := fun m n => (if_neg m).trans (if_neg n)
    have hok : HOk P wd (initH l a u) t.heap := fun b v e => by
      by_cases m : b ∈ l.map (·.2)
      · rw [atT m] at e
        cases e
        exact T.at' m
      · by_cases q : b = a
        · subst q
          rw [atA] at e
          have := hu v e
          subst this
          exact ⟨ha, by rw [List.length_map]; exact short, ws, _, rel, ha⟩
        · rw [else' m q] at e
          cases e
    have vis : ∀ {b o}, t.heap.get? b = some o → initH l a u b = none → (hidT t.heap (initH l a u)).get? b = some o := fun e n => hidT_get e n
    have dic : ∀ {b : Addr} {o : Obj} {es : Array DictEntry} {ep : Nat}, t.heap.get? b = some o → o.data = .dict es ep → initH l a u b = none := fun {b o es ep} e d =>
      T.seen ha e (fun vs n z => by rw [d] at z; cases z) (fun z => by rw [d] at z; cases z)
    have nsV : ∀ {b : Addr} {m : Str → Option Value}, t.heap.Ns b m → (hidT t.heap (initH l a u)).Ns b m := fun {b m} h => by
      obtain ⟨o, es, ep, e, d, z⟩ := h
      exact ⟨o, es, ep, vis e (dic e d), d, z⟩
    have kinV : K.In (hidT t.heap (initH l a u)) := fun b o e => by
      refine vis (kin b o e) ?_
      by_cases m : b ∈ l.map (·.2)
      · obtain ⟨z, hz, q⟩ := List.mem_map.mp m
        rw [← q, T.out z hz] at e
        cases e
      · by_cases q : b = a
        · subst q
          rw [atA]
          cases hn : u with
          | none => rfl
          | some v =>
            rw [hk (by rw [hn]; simp)] at e
            cases e
        · exact else' m q
    have modV : L2.Mod K mg (hidT t.heap (initH l a u)) := ⟨kinV, nsV gns, ⟨nb, nsV bns, boot⟩, by
      obtain ⟨mc, z1, z2⟩ := nol
      exact ⟨mc, nsV z1, z2⟩⟩
    have tbV : ∀ z ∈ l, LamX.TabB (hidT t.heap (initH l a u)) mg z.1 z.2 := fun z hz => by
      have tz := T.new z hz
      refine ⟨?_, ?_, fun q => ?_⟩
      · obtain ⟨o, us, v1, v2, v3, v4, v5, v6, v7, e, d0, d, d1, rest⟩ := T.code z hz
        exact ⟨o, us, v1, v2, v3, v4, v5, v6, v7, vis e (T.seen ha e (fun vs n y => by rw [d] at y; cases y) (fun y => by rw [d] at y; cases y; simp at d1)), d0, d, d1, rest⟩
      · obtain ⟨m, ob, y1, y2, y3, y4, y5, y6⟩ := bmod
        have hm : initH l a u m = none := T.seen ha y3 (fun vs n y => by rw [y6] at y; cases y) (fun y => by rw [y6] at y; cases y)
        refine ⟨m, ob, y1, y2, fun q => ?_, fun q => ?_, vis y3 hm, y4, y5, y6⟩
        · obtain ⟨o, es, ep, e, d, _⟩ := gns
          rw [q, e] at y3
          cases y3
          rw [d] at y6
          cases y6
        · rw [q, tz] at y3
          cases y3
          cases y6
      · obtain ⟨o, es, ep, e, d, _⟩ := gns
        rw [q, tz] at e
        cases e
        cases d
    have e0 : Env0 P wd K mg (hidT t.heap (initH l a u)) callerA [] t (initH l a u) := ⟨rfl, modV, fun b o e => of_hidT e, Nat.le_of_eq (hidT_size _ _), trivial, fun b m => absurd (show b ∈ ([] : List Addr) from m) (by simp), hok, .of_eq gen0⟩
    have tb0 : LamX.Tabs Nam.T (initH l a u) := fun z hz => LamX.TabS.nil (atT (nm z hz))
    obtain ⟨S, hS⟩ := right
    have sp : SpF ⟨K, wd⟩ ([x] : List Str).length fn [.ref a] (initH l a u) (fun v _ => v = .bl true) (fun _ _ _ => False) := by
      refine ⟨[], noTb (initH l a u), [], [.fz (is.map D.int)], ⟨noTb_sub _, rfl, List.nodup_nil, fun n o a e _ => by simp at e, fun n o a e _ _ => by simp at e, fun n a e => by simp at e, noTb_no _⟩, .cons (.fz (noTb_sq hsq) (reps_ints is)) .nil, rfl, ?_⟩
      rw [hS]
      intro w' v _ _ rp
      cases rp with
      | bl b => rfl
    refine codeAny_mono ((ok _ kinV (nsV gns) tbV).run callerA [] t (initH l a u) ⟨[.ref a], []⟩ [.ref a] [.ref a] _ _ room rfl e0 (bnd t (.ref a)) (.cons rfl .nil) tb0 sp) fun r s' h => ?_
    cases r with
    | error e => exact (cx_no h).elim
    | ok fl =>
      cases fl with
      | next => exact h.elim
      | brk => exact h.elim
      | cont => exact h.elim
      | ret y =>
        obtain ⟨v, H', os, bare, un, hok', rv, q⟩ := h
        have q : v = .bl true := q
        subst q
        cases (show y = Value.bool true from rv)
        have kept : ∀ b o, b ∉ l.map (·.2) → t.heap.get? b = some o → s'.heap.get? b = some o := fun b o nb e => by
          by_cases qa : b = a
          · subst qa
            cases hn : u with
            | none => exact un.keep b o e (by rw [atA, hn]) (fun z => (nomatch (show b ∈ ([] : List Addr) from z))) (by simp)
            | some v =>
              have := hu v hn
              subst this
              have z2 := un.frzs b _ _ (show initH l b u b = _ by rw [atA, hn])
              obtain ⟨e1, _⟩ := hok' b _ z2
              rw [ha] at e
              cases e
              exact e1
          · exact un.keep b o e (else' nb qa) (fun z => (nomatch (show b ∈ ([] : List Addr) from z))) (by simp)
        have grew : ∀ z ∈ l, ∃ more : Array Value, s'.heap.get? z.2 = some { cls := .none, data := .fields more } := fun z hz => by
          obtain ⟨more, e⟩ := un.tbls z.2 #[] (atT (List.mem_map.mpr ⟨z, hz, rfl⟩))
          exact ⟨_, hok' z.2 _ e⟩
        refine ⟨rfl, ⟨fun b o e => ?_, fun b o e => ?_⟩, os, bare⟩
        · by_cases m : b ∈ l.map (·.2)
          · obtain ⟨z, hz, q⟩ := List.mem_map.mp m
            obtain ⟨more, e2⟩ := grew z hz
            subst q
            rw [T.new z hz] at e
            cases e
            refine .inr (.inl ⟨((T.code z hz).tab (T.new z hz)).isCodeTable, rfl, #[], more, rfl, ?_⟩)
            rw [Array.empty_append]
            exact e2
          · exact .inl (kept b o m e)
        · by_cases m : b ∈ l.map (·.2)
          · obtain ⟨z, hz, q⟩ := List.mem_map.mp m
            obtain ⟨more, e2⟩ := grew z hz
            exact ⟨_, by rw [← q]; exact e2⟩
          · exact ⟨o, kept b o m e⟩
  cases hk : K.lookup a with
  | some o =>
    have e := kin a o hk
    rw [ha] at e
    cases e
    exact any none (fun _ z => (nomatch z)) (fun z => absurd rfl z) (.inr ⟨_, ws.toArray, _, hk, rfl, rfl, rfl, by rw [List.size_toArray, hi.length]; exact short, by simpa using rel⟩)
  | none => exact any (some _) (fun _ z => (Option.some.inj z).symm) (fun _ => hk) (.inl (.inr ⟨_, (if_neg nta).trans (if_pos rfl)⟩))
end
/-- a law's walk: what its def promises is enough -/
theorem walkG {lw : PySem.W.OpenLaw} {k : Nat} {q : Program} {loose : List Str} {XP : (Str → Option Value) → Heap → Prop} {YP : World → Heap → Prop} {d : DefRec} {KF : Params → PySem.W.Frag} {x : Str} (hm : lw.most = some 63) (hdf : d.params.defaults = []) (room : Room k callerA) (hY : ∀ (w : World) (h : Heap), YP w h → (KF w.params).In h)
    (F : ∀ (w : World) (mg : Str → Option Value) (fa : Addr) (h : Heap), YP w h → (KF w.params).In h → h.Ns mainGlobals mg → mg d.name = some (.ref fa) →
      ∃ (l : List (Addr × Addr)) (fd : FuncData) (fn : Fn) (nam : Nam), Tbs (KF w.params) h l ∧ (∀ z ∈ nam.T, z.1 ∈ l.map (·.2)) ∧ (∀ (s : Shared) (u : Value), BindsTo s fd ⟨[u], []⟩ [(x, u)]) ∧
        (∀ base : Heap, (KF w.params).In base → base.Ns mainGlobals mg → (∀ z ∈ l, LamX.TabB base mg z.1 z.2) → @FnG nam lw.prog w (KF w.params) mg base k fa fd [x] fn) ∧ ∀ is : List Int, is.length ≤ 63 → (∀ z ∈ is, Builtin.Int.intBits z ≤ 1048576) → ∃ S, fn [.fz (is.map D.int)] [] = .ok (.bl true) S) :
    PySem.W.WalkO q loose XP YP lw.row.toRowW d [] (fun f vs => PySem.call f vs) := by
  refine Att.attach_callB hm hdf fun w s₀ t mg nb fa o pm cd doc a ws is G Y _ _ _ named ha hi short bits gen0 => ?_
  obtain ⟨l, fd, fn, nam, T, nm, bnd, ok, right⟩ := F w mg fa _ Y (hY w _ Y) G.T.g named
  exact @callG lw.prog w (KF w.params) mg nb t l nam k fa a fd x fn ws is (hY w _ Y) G.T.g G.T.b G.T.builtins G.T.nolimit gen0 T G.T.bmain ha hi (Nat.le_trans short (by decide)) room ok bnd nm (right is short bits)
end Fx
end

section
set_option Elab.async false
set_option linter.all false
set_option maxRecDepth 100000
set_option maxHeartbeats 2000000
/-! constants of a module that are tuples; {} -/
namespace Fx
open PySem PySem.Spec PyProof.Rows L2
variable [Nam]
/-- the module's name x is a tuple of these -/
def TupC (K : Kw) (a : Addr) (ds : List D) : Prop := ∀ (r : List Addr) (F : Hp), Rep K r F (.ref a) (.tup ds)
theorem tupC_of {K : Kw} {a : Addr} {d : Option Addr} {its : Array Value} {n : Nat} {sl : Array (Option Value)} {ds : List D} {vs : List V} (e : K.K.lookup a = some ⟨.type "tuple", d, .seq its n, sl⟩) (z : its.size ≤ sizeLine) (v : Vals vs its.toList) (h : ∀ r F, Reps K r F vs ds) : TupC K a ds :=
  fun r F => .tup (.inr ⟨_, its, n, e, rfl, rfl, z, v⟩) (h r F)
theorem lamS_of {X : Cx} {sc sc0 : Scope} (h : X.env.scope = sc0) (hb : LamX.lamSB sc0 sc = true) : LamX.LamS X.env.scope sc := by rw [h]; exact LamX.lamS_by hb
section
variable {X : Cx} {B : Bs} {W : WX} {pos : Pos}
theorem tr_gtup {x : Str} {a : Addr} {ds : List D} (h : TupC X.kw a ds) (hm : X.mg x = some (.ref a)) (hg : Gl X x := by rfl) (hd : (x == ("__debug__" : Str)) = false := by decide) : Tr X B W (.Name x pos) (mC (.tup ds)) := trC (pe_glob (v := V.ref a) hg hm rfl hd) fun _ _ => h _ _
/-- {}, a thing that will not change -/
theorem tr_dct0 : Tr X B W (.Dict [] [] pos) (mC (.dct [] [])) := imE pe_dnewK fun σ H Q h p hp => by
  obtain ⟨r0, F0, Γ, S, o, g, q⟩ := h
  obtain ⟨o', t⟩ := o.new hp (.dK [])
  exact q _ _ t o' (.dct (vs := []) upd_same rfl rfl .nil)
end
end Fx
end

section
set_option Elab.async false
set_option linter.all false
set_option maxRecDepth 100000
set_option maxHeartbeats 4000000
namespace K01
open PySem PySem.Spec PyProof.Rows L2 Fx
variable [Nam]
def top (i : Nat) : Stmt := PySem.Challenge.pw_usesstaybound_k01_deeds_and_names.main.body.getD i (.Pass ⟨0, 0, 0, 0⟩)
abbrev s__law_rounds : Stmt := top 52
abbrev s__law_pool : Stmt := top 49
abbrev s__law_world : Stmt := top 54
abbrev s__law_take : Stmt := top 50
abbrev s__law_one : Stmt := top 51
abbrev s__law_do : Stmt := top 61
abbrev s__law_learn : Stmt := top 56
abbrev s__law_content : Stmt := top 57
abbrev s__law_holders : Stmt := top 58
abbrev s__law_made_body : Stmt := top 59
abbrev s__law_body : Stmt := top 60
abbrev s__law_seen_deeds : Stmt := top 55
abbrev s__law_step : Stmt := top 62
abbrev s__law_drawn : Stmt := top 63
abbrev s__law_odd : Stmt := top 73
abbrev s__law_bent : Stmt := top 74
abbrev s_is_name : Stmt := top 30
abbrev s_is_tuple_of : Stmt := top 7
abbrev s_is_whole : Stmt := top 5
abbrev s_is_number : Stmt := top 6
abbrev s_is_stamp : Stmt := top 31
abbrev s_is_place_name : Stmt := top 32
abbrev s_is_binder : Stmt := top 33
abbrev s_is_content : Stmt := top 35
abbrev s_is_make : Stmt := top 36
abbrev s_is_placing_body : Stmt := top 37
abbrev s_is_content_body : Stmt := top 38
abbrev s_is_body : Stmt := top 39
abbrev s_is_seen : Stmt := top 40
abbrev s_is_deed : Stmt := top 41
abbrev s_does_hold : Stmt := top 34
abbrev s__law_a_name : Stmt := top 68
abbrev s__law_whole : Stmt := top 65
abbrev s__law_a_stamp : Stmt := top 66
abbrev s__law_a_place : Stmt := top 67
abbrev s__law_a_content : Stmt := top 69
abbrev s__law_a_body : Stmt := top 70
abbrev s__law_a_deed : Stmt := top 71
abbrev s__law_value_right : Stmt := top 75
abbrev s__law_caught : Stmt := top 64
abbrev s_NoDeed___init__ : Stmt := inClass (top 11) 0
abbrev s_check_deed : Stmt := top 42
abbrev s_is_mark : Stmt := top 44
abbrev s_in_stamp_order : Stmt := top 8
abbrev s_names_in : Stmt := top 45
abbrev s_named_by : Stmt := top 46
abbrev s__law_stamps : Stmt := top 53
abbrev s__law_names : Stmt := top 72
abbrev s_NoHand___init__ : Stmt := inClass (top 18) 0
abbrev s_check_hand : Stmt := top 43
abbrev s_time_seen : Stmt := top 47
abbrev s__law_deed_right : Stmt := top 76
abbrev s_law : Stmt := top 77
abbrev nm__law_rounds : List Str := ["script"]
theorem sc__law_rounds : FnScope ["script"] ["script"] (defScope s__law_rounds) := ⟨rfl, rfl, rfl, by decide +kernel, rfl, by decide +kernel, by decide +kernel⟩
abbrev nm__law_pool : List Str := ["script", "k", "cell", "big", "mixed"]
theorem sc__law_pool : FnScope ["script", "k", "cell", "big", "mixed"] ["script", "k"] (defScope s__law_pool) := ⟨rfl, rfl, rfl, by decide +kernel, rfl, by decide +kernel, by decide +kernel⟩
abbrev nm__law_world : List Str := ["many", "hand"]
theorem sc__law_world : FnScope ["many", "hand"] ["many"] (defScope s__law_world) := ⟨rfl, rfl, rfl, by decide +kernel, rfl, by decide +kernel, by decide +kernel⟩
abbrev nm__law_take : List Str := ["source", "top", "told"]
theorem sc__law_take : FnScope ["source", "top", "told"] ["source", "top"] (defScope s__law_take) := ⟨rfl, rfl, rfl, by decide +kernel, rfl, by decide +kernel, by decide +kernel⟩
abbrev nm__law_one : List Str := ["source", "things"]
theorem sc__law_one : FnScope ["source", "things"] ["source", "things"] (defScope s__law_one) := ⟨rfl, rfl, rfl, by decide +kernel, rfl, by decide +kernel, by decide +kernel⟩
abbrev nm__law_do : List Str := ["source", "world", "hand", "body", "seen", "stamp", "time", "k"]
theorem sc__law_do : FnScope ["source", "world", "hand", "body", "seen", "stamp", "time", "k"] ["source", "world", "hand", "body"] (defScope s__law_do) := ⟨rfl, rfl, rfl, by decide +kernel, rfl, by decide +kernel, by decide +kernel⟩
abbrev nm__law_learn : List Str := ["source", "world", "hand", "other", "some", "seen", "deed", "k"]
theorem sc__law_learn : FnScope ["source", "world", "hand", "other", "some", "seen", "deed", "k"] ["source", "world", "hand"] (defScope s__law_learn) := ⟨rfl, rfl, rfl, by decide +kernel, rfl, by decide +kernel, by decide +kernel⟩
abbrev nm__law_content : List Str := ["source", "kind", "some", "lets", "odd", "deed"]
theorem sc__law_content : FnScope ["source", "kind", "some", "lets", "odd", "deed"] ["source", "kind", "some"] (defScope s__law_content) := ⟨rfl, rfl, rfl, by decide +kernel, rfl, by decide +kernel, by decide +kernel⟩
abbrev nm__law_holders : List Str := ["some", "kinds", "deed"]
theorem sc__law_holders : FnScope ["some", "kinds", "deed"] ["some"] (defScope s__law_holders) := ⟨rfl, rfl, rfl, by decide +kernel, rfl, by decide +kernel, by decide +kernel⟩
abbrev nm__law_made_body : List Str := ["source", "some", "kind", "under"]
theorem sc__law_made_body : FnScope ["source", "some", "kind", "under"] ["source", "some"] (defScope s__law_made_body) := ⟨rfl, rfl, rfl, by decide +kernel, rfl, by decide +kernel, by decide +kernel⟩
abbrev nm__law_body : List Str := ["source", "some", "makes", "words", "word", "kind", "things", "odd", "thing", "under", "deed"]
theorem sc__law_body : FnScope ["source", "some", "makes", "words", "word", "kind", "things", "odd", "thing", "under", "deed"] ["source", "some"] (defScope s__law_body) := ⟨rfl, rfl, rfl, by decide +kernel, rfl, by decide +kernel, by decide +kernel⟩
abbrev nm__law_seen_deeds : List Str := ["world", "hand", "seen", "deed"]
theorem sc__law_seen_deeds : FnScope ["world", "hand", "seen", "deed"] ["world", "hand"] (defScope s__law_seen_deeds) := ⟨rfl, rfl, rfl, by decide +kernel, rfl, by decide +kernel, by decide +kernel⟩
abbrev nm__law_step : List Str := ["source", "world", "hand"]
theorem sc__law_step : FnScope ["source", "world", "hand"] ["source", "world"] (defScope s__law_step) := ⟨rfl, rfl, rfl, by decide +kernel, rfl, by decide +kernel, by decide +kernel⟩
abbrev nm__law_drawn : List Str := ["source", "most", "many", "world", "made", "hand", "turn"]
theorem sc__law_drawn : FnScope ["source", "most", "many", "world", "made", "hand", "turn"] ["source", "most", "many"] (defScope s__law_drawn) := ⟨rfl, rfl, rfl, by decide +kernel, rfl, by decide +kernel, by decide +kernel⟩
abbrev nm__law_odd : List Str := ["source", "some"]
theorem sc__law_odd : FnScope ["source", "some"] ["source"] (defScope s__law_odd) := ⟨rfl, rfl, rfl, by decide +kernel, rfl, by decide +kernel, by decide +kernel⟩
abbrev nm__law_bent : List Str := ["source", "thing", "way", "at"]
theorem sc__law_bent : FnScope ["source", "thing", "way", "at"] ["source", "thing"] (defScope s__law_bent) := ⟨rfl, rfl, rfl, by decide +kernel, rfl, by decide +kernel, by decide +kernel⟩
abbrev nm_is_name : List Str := ["value", "sign"]
theorem sc_is_name : FnScope ["value", "sign"] ["value"] (defScope s_is_name) := ⟨rfl, rfl, rfl, by decide +kernel, rfl, by decide +kernel, by decide +kernel⟩
abbrev nm_is_tuple_of : List Str := ["value", "many"]
theorem sc_is_tuple_of : FnScope ["value", "many"] ["value", "many"] (defScope s_is_tuple_of) := ⟨rfl, rfl, rfl, by decide +kernel, rfl, by decide +kernel, by decide +kernel⟩
abbrev nm_is_whole : List Str := ["value"]
theorem sc_is_whole : FnScope ["value"] ["value"] (defScope s_is_whole) := ⟨rfl, rfl, rfl, by decide +kernel, rfl, by decide +kernel, by decide +kernel⟩
abbrev nm_is_number : List Str := ["value", "low", "high"]
theorem sc_is_number : FnScope ["value", "low", "high"] ["value", "low", "high"] (defScope s_is_number) := ⟨rfl, rfl, rfl, by decide +kernel, rfl, by decide +kernel, by decide +kernel⟩
abbrev nm_is_stamp : List Str := ["value"]
theorem sc_is_stamp : FnScope ["value"] ["value"] (defScope s_is_stamp) := ⟨rfl, rfl, rfl, by decide +kernel, rfl, by decide +kernel, by decide +kernel⟩
abbrev nm_is_place_name : List Str := ["value"]
theorem sc_is_place_name : FnScope ["value"] ["value"] (defScope s_is_place_name) := ⟨rfl, rfl, rfl, by decide +kernel, rfl, by decide +kernel, by decide +kernel⟩
abbrev nm_is_binder : List Str := ["value"]
theorem sc_is_binder : FnScope ["value"] ["value"] (defScope s_is_binder) := ⟨rfl, rfl, rfl, by decide +kernel, rfl, by decide +kernel, by decide +kernel⟩
abbrev nm_is_content : List Str := ["kind", "content"]
theorem sc_is_content : FnScope ["kind", "content"] ["kind", "content"] (defScope s_is_content) := ⟨rfl, rfl, rfl, by decide +kernel, rfl, by decide +kernel, by decide +kernel⟩
abbrev nm_is_make : List Str := ["body"]
theorem sc_is_make : FnScope ["body"] ["body"] (defScope s_is_make) := ⟨rfl, rfl, rfl, by decide +kernel, rfl, by decide +kernel, by decide +kernel⟩
abbrev nm_is_placing_body : List Str := ["body"]
theorem sc_is_placing_body : FnScope ["body"] ["body"] (defScope s_is_placing_body) := ⟨rfl, rfl, rfl, by decide +kernel, rfl, by decide +kernel, by decide +kernel⟩
abbrev nm_is_content_body : List Str := ["body", "kind"]
theorem sc_is_content_body : FnScope ["body", "kind"] ["body"] (defScope s_is_content_body) := ⟨rfl, rfl, rfl, by decide +kernel, rfl, by decide +kernel, by decide +kernel⟩
abbrev nm_is_body : List Str := ["value"]
theorem sc_is_body : FnScope ["value"] ["value"] (defScope s_is_body) := ⟨rfl, rfl, rfl, by decide +kernel, rfl, by decide +kernel, by decide +kernel⟩
abbrev nm_is_seen : List Str := ["value", "stamp", "time"]
theorem sc_is_seen : FnScope ["value", "stamp", "time"] ["value", "stamp"] (defScope s_is_seen) := ⟨rfl, rfl, rfl, by decide +kernel, rfl, by decide +kernel, by decide +kernel⟩
abbrev nm_is_deed : List Str := ["value"]
theorem sc_is_deed : FnScope ["value"] ["value"] (defScope s_is_deed) := ⟨rfl, rfl, rfl, by decide +kernel, rfl, by decide +kernel, by decide +kernel⟩
abbrev nm_does_hold : List Str := ["kind"]
theorem sc_does_hold : FnScope ["kind"] ["kind"] (defScope s_does_hold) := ⟨rfl, rfl, rfl, by decide +kernel, rfl, by decide +kernel, by decide +kernel⟩
abbrev nm__law_a_name : List Str := ["value", "sign"]
theorem sc__law_a_name : FnScope ["value", "sign"] ["value"] (defScope s__law_a_name) := ⟨rfl, rfl, rfl, by decide +kernel, rfl, by decide +kernel, by decide +kernel⟩
abbrev nm__law_whole : List Str := ["value", "low", "high"]
theorem sc__law_whole : FnScope ["value", "low", "high"] ["value", "low", "high"] (defScope s__law_whole) := ⟨rfl, rfl, rfl, by decide +kernel, rfl, by decide +kernel, by decide +kernel⟩
abbrev nm__law_a_stamp : List Str := ["value"]
theorem sc__law_a_stamp : FnScope ["value"] ["value"] (defScope s__law_a_stamp) := ⟨rfl, rfl, rfl, by decide +kernel, rfl, by decide +kernel, by decide +kernel⟩
abbrev nm__law_a_place : List Str := ["value"]
theorem sc__law_a_place : FnScope ["value"] ["value"] (defScope s__law_a_place) := ⟨rfl, rfl, rfl, by decide +kernel, rfl, by decide +kernel, by decide +kernel⟩
abbrev nm__law_a_content : List Str := ["kind", "value"]
theorem sc__law_a_content : FnScope ["kind", "value"] ["kind", "value"] (defScope s__law_a_content) := ⟨rfl, rfl, rfl, by decide +kernel, rfl, by decide +kernel, by decide +kernel⟩
abbrev nm__law_a_body : List Str := ["value", "word", "many", "kind"]
theorem sc__law_a_body : FnScope ["value", "word", "many", "kind"] ["value"] (defScope s__law_a_body) := ⟨rfl, rfl, rfl, by decide +kernel, rfl, by decide +kernel, by decide +kernel⟩
abbrev nm__law_a_deed : List Str := ["value", "one"]
theorem sc__law_a_deed : FnScope ["value", "one"] ["value"] (defScope s__law_a_deed) := ⟨rfl, rfl, rfl, by decide +kernel, rfl, by decide +kernel, by decide +kernel⟩
abbrev nm__law_value_right : List Str := ["value", "told", "due", "holds"]
theorem sc__law_value_right : FnScope ["value", "told", "due", "holds"] ["value"] (defScope s__law_value_right) := ⟨rfl, rfl, rfl, by decide +kernel, rfl, by decide +kernel, by decide +kernel⟩
abbrev nm__law_caught : List Str := ["call", "e"]
theorem sc__law_caught : FnScope ["call", "e"] ["call"] (defScope s__law_caught) := ⟨rfl, rfl, rfl, by decide +kernel, rfl, by decide +kernel, by decide +kernel⟩
abbrev nm_check_deed : List Str := ["deed"]
theorem sc_check_deed : FnScope ["deed"] ["deed"] (defScope s_check_deed) := ⟨rfl, rfl, rfl, by decide +kernel, rfl, by decide +kernel, by decide +kernel⟩
abbrev nm_is_mark : List Str := ["deed"]
theorem sc_is_mark : FnScope ["deed"] ["deed"] (defScope s_is_mark) := ⟨rfl, rfl, rfl, by decide +kernel, rfl, by decide +kernel, by decide +kernel⟩
abbrev nm_in_stamp_order : List Str := ["some", "known", "time", "hand"]
theorem sc_in_stamp_order : FnScope ["some", "known", "time", "hand"] ["some"] (defScope s_in_stamp_order) := ⟨rfl, rfl, rfl, by decide +kernel, rfl, by decide +kernel, by decide +kernel⟩
abbrev nm_names_in : List Str := ["body"]
theorem sc_names_in : FnScope ["body"] ["body"] (defScope s_names_in) := ⟨rfl, rfl, rfl, by decide +kernel, rfl, by decide +kernel, by decide +kernel⟩
abbrev nm_named_by : List Str := ["deed", "name"]
theorem sc_named_by : FnScope ["deed", "name"] ["deed"] (defScope s_named_by) := ⟨rfl, rfl, rfl, by decide +kernel, rfl, by decide +kernel, by decide +kernel⟩
abbrev nm__law_stamps : List Str := ["some", "one"]
theorem sc__law_stamps : FnScope ["some", "one"] ["some"] (defScope s__law_stamps) := ⟨rfl, rfl, rfl, by decide +kernel, rfl, by decide +kernel, by decide +kernel⟩
abbrev nm__law_names : List Str := ["deed", "body", "some", "one"]
theorem sc__law_names : FnScope ["deed", "body", "some", "one"] ["deed"] (defScope s__law_names) := ⟨rfl, rfl, rfl, by decide +kernel, rfl, by decide +kernel, by decide +kernel⟩
abbrev nm_check_hand : List Str := ["hand"]
theorem sc_check_hand : FnScope ["hand"] ["hand"] (defScope s_check_hand) := ⟨rfl, rfl, rfl, by decide +kernel, rfl, by decide +kernel, by decide +kernel⟩
abbrev nm_time_seen : List Str := ["deed", "hand"]
theorem sc_time_seen : FnScope ["deed", "hand"] ["deed", "hand"] (defScope s_time_seen) := ⟨rfl, rfl, rfl, by decide +kernel, rfl, by decide +kernel, by decide +kernel⟩
abbrev nm__law_deed_right : List Str := ["source", "deed", "odd", "hand"]
theorem sc__law_deed_right : FnScope ["source", "deed", "odd", "hand"] ["source", "deed"] (defScope s__law_deed_right) := ⟨rfl, rfl, rfl, by decide +kernel, rfl, by decide +kernel, by decide +kernel⟩
abbrev nm_law : List Str := ["script", "k", "source", "deed", "bents", "value"]
theorem sc_law : FnScope ["script", "k", "source", "deed", "bents", "value"] ["script"] (defScope s_law) := ⟨rfl, rfl, rfl, by decide +kernel, rfl, by decide +kernel, by decide +kernel⟩
structure Ads where
  C_NoDeed : Addr
  C_NoHand : Addr
  C_NoBook : Addr
  C_NotClosed : Addr
  C_Unseen : Addr
  C_NoBody : Addr
  C_NoStamp : Addr
  C_NoStamps : Addr
  C_NoMenu : Addr
  C_NoPacket : Addr
  C_NothingBack : Addr
  C_NoHands : Addr
  C_NoBranches : Addr
  C_TooMany : Addr
  c__law_deed_right : Addr
  P__law_deed_right : Addr
  c_law : Addr
  P_law : Addr
  f__law_rounds : Addr
  d__law_rounds : FuncData
  f__law_pool : Addr
  d__law_pool : FuncData
  f__law_world : Addr
  d__law_world : FuncData
  f__law_take : Addr
  d__law_take : FuncData
  f__law_one : Addr
  d__law_one : FuncData
  f__law_do : Addr
  d__law_do : FuncData
  f__law_learn : Addr
  d__law_learn : FuncData
  f__law_content : Addr
  d__law_content : FuncData
  f__law_holders : Addr
  d__law_holders : FuncData
  f__law_made_body : Addr
  d__law_made_body : FuncData
  f__law_body : Addr
  d__law_body : FuncData
  f__law_seen_deeds : Addr
  d__law_seen_deeds : FuncData
  f__law_step : Addr
  d__law_step : FuncData
  f__law_drawn : Addr
  d__law_drawn : FuncData
  f__law_odd : Addr
  d__law_odd : FuncData
  f__law_bent : Addr
  d__law_bent : FuncData
  f_is_name : Addr
  d_is_name : FuncData
  f_is_tuple_of : Addr
  d_is_tuple_of : FuncData
  f_is_whole : Addr
  d_is_whole : FuncData
  f_is_number : Addr
  d_is_number : FuncData
  f_is_stamp : Addr
  d_is_stamp : FuncData
  f_is_place_name : Addr
  d_is_place_name : FuncData
  f_is_binder : Addr
  d_is_binder : FuncData
  f_is_content : Addr
  d_is_content : FuncData
  f_is_make : Addr
  d_is_make : FuncData
  f_is_placing_body : Addr
  d_is_placing_body : FuncData
  f_is_content_body : Addr
  d_is_content_body : FuncData
  f_is_body : Addr
  d_is_body : FuncData
  f_is_seen : Addr
  d_is_seen : FuncData
  f_is_deed : Addr
  d_is_deed : FuncData
  f_does_hold : Addr
  d_does_hold : FuncData
  f__law_a_name : Addr
  d__law_a_name : FuncData
  f__law_whole : Addr
  d__law_whole : FuncData
  f__law_a_stamp : Addr
  d__law_a_stamp : FuncData
  f__law_a_place : Addr
  d__law_a_place : FuncData
  f__law_a_content : Addr
  d__law_a_content : FuncData
  f__law_a_body : Addr
  d__law_a_body : FuncData
  f__law_a_deed : Addr
  d__law_a_deed : FuncData
  f__law_value_right : Addr
  d__law_value_right : FuncData
  f__law_caught : Addr
  d__law_caught : FuncData
  f_NoDeed___init__ : Addr
  d_NoDeed___init__ : FuncData
  f_check_deed : Addr
  d_check_deed : FuncData
  f_is_mark : Addr
  d_is_mark : FuncData
  f_in_stamp_order : Addr
  d_in_stamp_order : FuncData
  f_names_in : Addr
  d_names_in : FuncData
  f_named_by : Addr
  d_named_by : FuncData
  f__law_stamps : Addr
  d__law_stamps : FuncData
  f__law_names : Addr
  d__law_names : FuncData
  f_NoHand___init__ : Addr
  d_NoHand___init__ : FuncData
  f_check_hand : Addr
  d_check_hand : FuncData
  f_time_seen : Addr
  d_time_seen : FuncData
  f__law_deed_right : Addr
  d__law_deed_right : FuncData
  f_law : Addr
  d_law : FuncData
  g_HOLDERS : Addr
  g_MARK_WORDS : Addr
  g_ROOT : Addr
def mt_NoDeed (A : Ads) : Addr → Option Bool := fun c => if c = A.C_NoDeed then some true else if c = A.C_NoHand then some false else none
theorem mt_NoDeed_eq {A : Ads} {c : Addr} (h : mt_NoDeed A c = some true) : c = A.C_NoDeed := by
  unfold mt_NoDeed at h
  repeat (first | (split at h) | assumption | cases h)
def mt_NoHand (A : Ads) : Addr → Option Bool := fun c => if c = A.C_NoHand then some true else if c = A.C_NoDeed then some false else none
theorem mt_NoHand_eq {A : Ads} {c : Addr} (h : mt_NoHand A c = some true) : c = A.C_NoHand := by
  unfold mt_NoHand at h
  repeat (first | (split at h) | assumption | cases h)
def mt_NoBook (A : Ads) : Addr → Option Bool := fun c => if c = A.C_NoDeed then some false else if c = A.C_NoHand then some false else none
theorem mt_NoBook_no {A : Ads} {c : Addr} (h : mt_NoBook A c = some true) : False := by
  unfold mt_NoBook at h
  repeat (first | (split at h) | cases h)
def mt_NotClosed (A : Ads) : Addr → Option Bool := fun c => if c = A.C_NoDeed then some false else if c = A.C_NoHand then some false else none
theorem mt_NotClosed_no {A : Ads} {c : Addr} (h : mt_NotClosed A c = some true) : False := by
  unfold mt_NotClosed at h
  repeat (first | (split at h) | cases h)
def mt_Unseen (A : Ads) : Addr → Option Bool := fun c => if c = A.C_NoDeed then some false else if c = A.C_NoHand then some false else none
theorem mt_Unseen_no {A : Ads} {c : Addr} (h : mt_Unseen A c = some true) : False := by
  unfold mt_Unseen at h
  repeat (first | (split at h) | cases h)
def mt_NoBody (A : Ads) : Addr → Option Bool := fun c => if c = A.C_NoDeed then some false else if c = A.C_NoHand then some false else none
theorem mt_NoBody_no {A : Ads} {c : Addr} (h : mt_NoBody A c = some true) : False := by
  unfold mt_NoBody at h
  repeat (first | (split at h) | cases h)
def mt_NoStamp (A : Ads) : Addr → Option Bool := fun c => if c = A.C_NoDeed then some false else if c = A.C_NoHand then some false else none
theorem mt_NoStamp_no {A : Ads} {c : Addr} (h : mt_NoStamp A c = some true) : False := by
  unfold mt_NoStamp at h
  repeat (first | (split at h) | cases h)
def mt_NoStamps (A : Ads) : Addr → Option Bool := fun c => if c = A.C_NoDeed then some false else if c = A.C_NoHand then some false else none
theorem mt_NoStamps_no {A : Ads} {c : Addr} (h : mt_NoStamps A c = some true) : False := by
  unfold mt_NoStamps at h
  repeat (first | (split at h) | cases h)
def mt_NoMenu (A : Ads) : Addr → Option Bool := fun c => if c = A.C_NoDeed then some false else if c = A.C_NoHand then some false else none
theorem mt_NoMenu_no {A : Ads} {c : Addr} (h : mt_NoMenu A c = some true) : False := by
  unfold mt_NoMenu at h
  repeat (first | (split at h) | cases h)
def mt_NoPacket (A : Ads) : Addr → Option Bool := fun c => if c = A.C_NoDeed then some false else if c = A.C_NoHand then some false else none
theorem mt_NoPacket_no {A : Ads} {c : Addr} (h : mt_NoPacket A c = some true) : False := by
  unfold mt_NoPacket at h
  repeat (first | (split at h) | cases h)
def mt_NothingBack (A : Ads) : Addr → Option Bool := fun c => if c = A.C_NoDeed then some false else if c = A.C_NoHand then some false else none
theorem mt_NothingBack_no {A : Ads} {c : Addr} (h : mt_NothingBack A c = some true) : False := by
  unfold mt_NothingBack at h
  repeat (first | (split at h) | cases h)
def mt_NoHands (A : Ads) : Addr → Option Bool := fun c => if c = A.C_NoDeed then some false else if c = A.C_NoHand then some false else none
theorem mt_NoHands_no {A : Ads} {c : Addr} (h : mt_NoHands A c = some true) : False := by
  unfold mt_NoHands at h
  repeat (first | (split at h) | cases h)
def mt_NoBranches (A : Ads) : Addr → Option Bool := fun c => if c = A.C_NoDeed then some false else if c = A.C_NoHand then some false else none
theorem mt_NoBranches_no {A : Ads} {c : Addr} (h : mt_NoBranches A c = some true) : False := by
  unfold mt_NoBranches at h
  repeat (first | (split at h) | cases h)
def mt_TooMany (A : Ads) : Addr → Option Bool := fun c => if c = A.C_NoDeed then some false else if c = A.C_NoHand then some false else none
theorem mt_TooMany_no {A : Ads} {c : Addr} (h : mt_TooMany A c = some true) : False := by
  unfold mt_TooMany at h
  repeat (first | (split at h) | cases h)
def lq__law_deed_right : Str := (envOfC "_law_deed_right" (defScope s__law_deed_right) 0 0 .none).qual ++ "<lambda>"
def lq_law : Str := (envOfC "law" (defScope s_law) 0 0 .none).qual ++ "<lambda>"
structure TBs (mg : Str → Option Value) (base : Heap) (A : Ads) : Prop where
  t__law_deed_right : LamX.TabB base mg A.c__law_deed_right A.P__law_deed_right
  t_law : LamX.TabB base mg A.c_law A.P_law
structure TX (P : Program) (wd : World) (K : PySem.W.Frag) (mg : Str → Option Value) (A : Ads) : Prop where
  cd__law_deed_right : A.d__law_deed_right.code = .ref A.c__law_deed_right
  n__law_deed_right : (A.P__law_deed_right, lq__law_deed_right) ∈ Nam.T
  u__law_deed_right : ∀ z ∈ Nam.T, z.1 = A.P__law_deed_right → z.2 = lq__law_deed_right
  cd_law : A.d_law.code = .ref A.c_law
  n_law : (A.P_law, lq_law) ∈ Nam.T
  u_law : ∀ z ∈ Nam.T, z.1 = A.P_law → z.2 = lq_law
  F__law_rounds : Fun K "_law_rounds" "_law_rounds" s__law_rounds A.f__law_rounds A.d__law_rounds
  B__law_rounds : Binds K A.d__law_rounds ["script"] []
  m__law_rounds : mg "_law_rounds" = some (.ref A.f__law_rounds)
  F__law_pool : Fun K "_law_pool" "_law_pool" s__law_pool A.f__law_pool A.d__law_pool
  B__law_pool : Binds K A.d__law_pool ["script", "k"] []
  m__law_pool : mg "_law_pool" = some (.ref A.f__law_pool)
  F__law_world : Fun K "_law_world" "_law_world" s__law_world A.f__law_world A.d__law_world
  B__law_world : Binds K A.d__law_world ["many"] []
  m__law_world : mg "_law_world" = some (.ref A.f__law_world)
  F__law_take : Fun K "_law_take" "_law_take" s__law_take A.f__law_take A.d__law_take
  B__law_take : Binds K A.d__law_take ["source", "top"] []
  m__law_take : mg "_law_take" = some (.ref A.f__law_take)
  F__law_one : Fun K "_law_one" "_law_one" s__law_one A.f__law_one A.d__law_one
  B__law_one : Binds K A.d__law_one ["source", "things"] []
  m__law_one : mg "_law_one" = some (.ref A.f__law_one)
  F__law_do : Fun K "_law_do" "_law_do" s__law_do A.f__law_do A.d__law_do
  B__law_do : Binds K A.d__law_do ["source", "world", "hand", "body"] []
  m__law_do : mg "_law_do" = some (.ref A.f__law_do)
  F__law_learn : Fun K "_law_learn" "_law_learn" s__law_learn A.f__law_learn A.d__law_learn
  B__law_learn : Binds K A.d__law_learn ["source", "world", "hand"] []
  m__law_learn : mg "_law_learn" = some (.ref A.f__law_learn)
  F__law_content : Fun K "_law_content" "_law_content" s__law_content A.f__law_content A.d__law_content
  B__law_content : Binds K A.d__law_content ["source", "kind", "some"] []
  m__law_content : mg "_law_content" = some (.ref A.f__law_content)
  F__law_holders : Fun K "_law_holders" "_law_holders" s__law_holders A.f__law_holders A.d__law_holders
  B__law_holders : Binds K A.d__law_holders ["some"] []
  m__law_holders : mg "_law_holders" = some (.ref A.f__law_holders)
  F__law_made_body : Fun K "_law_made_body" "_law_made_body" s__law_made_body A.f__law_made_body A.d__law_made_body
  B__law_made_body : Binds K A.d__law_made_body ["source", "some"] []
  m__law_made_body : mg "_law_made_body" = some (.ref A.f__law_made_body)
  F__law_body : Fun K "_law_body" "_law_body" s__law_body A.f__law_body A.d__law_body
  B__law_body : Binds K A.d__law_body ["source", "some"] []
  m__law_body : mg "_law_body" = some (.ref A.f__law_body)
  F__law_seen_deeds : Fun K "_law_seen_deeds" "_law_seen_deeds" s__law_seen_deeds A.f__law_seen_deeds A.d__law_seen_deeds
  B__law_seen_deeds : Binds K A.d__law_seen_deeds ["world", "hand"] []
  m__law_seen_deeds : mg "_law_seen_deeds" = some (.ref A.f__law_seen_deeds)
  F__law_step : Fun K "_law_step" "_law_step" s__law_step A.f__law_step A.d__law_step
  B__law_step : Binds K A.d__law_step ["source", "world"] []
  m__law_step : mg "_law_step" = some (.ref A.f__law_step)
  F__law_drawn : Fun K "_law_drawn" "_law_drawn" s__law_drawn A.f__law_drawn A.d__law_drawn
  B__law_drawn : Binds K A.d__law_drawn ["source", "most", "many"] []
  m__law_drawn : mg "_law_drawn" = some (.ref A.f__law_drawn)
  F__law_odd : Fun K "_law_odd" "_law_odd" s__law_odd A.f__law_odd A.d__law_odd
  B__law_odd : Binds K A.d__law_odd ["source"] []
  m__law_odd : mg "_law_odd" = some (.ref A.f__law_odd)
  F__law_bent : Fun K "_law_bent" "_law_bent" s__law_bent A.f__law_bent A.d__law_bent
  B__law_bent : Binds K A.d__law_bent ["source", "thing"] []
  m__law_bent : mg "_law_bent" = some (.ref A.f__law_bent)
  F_is_name : Fun K "is_name" "is_name" s_is_name A.f_is_name A.d_is_name
  B_is_name : Binds K A.d_is_name ["value"] []
  m_is_name : mg "is_name" = some (.ref A.f_is_name)
  F_is_tuple_of : Fun K "is_tuple_of" "is_tuple_of" s_is_tuple_of A.f_is_tuple_of A.d_is_tuple_of
  B_is_tuple_of : Binds K A.d_is_tuple_of ["value", "many"] []
  m_is_tuple_of : mg "is_tuple_of" = some (.ref A.f_is_tuple_of)
  F_is_whole : Fun K "is_whole" "is_whole" s_is_whole A.f_is_whole A.d_is_whole
  B_is_whole : Binds K A.d_is_whole ["value"] []
  m_is_whole : mg "is_whole" = some (.ref A.f_is_whole)
  F_is_number : Fun K "is_number" "is_number" s_is_number A.f_is_number A.d_is_number
  B_is_number : Binds K A.d_is_number ["value", "low", "high"] []
  m_is_number : mg "is_number" = some (.ref A.f_is_number)
  F_is_stamp : Fun K "is_stamp" "is_stamp" s_is_stamp A.f_is_stamp A.d_is_stamp
  B_is_stamp : Binds K A.d_is_stamp ["value"] []
  m_is_stamp : mg "is_stamp" = some (.ref A.f_is_stamp)
  F_is_place_name : Fun K "is_place_name" "is_place_name" s_is_place_name A.f_is_place_name A.d_is_place_name
  B_is_place_name : Binds K A.d_is_place_name ["value"] []
  m_is_place_name : mg "is_place_name" = some (.ref A.f_is_place_name)
  F_is_binder : Fun K "is_binder" "is_binder" s_is_binder A.f_is_binder A.d_is_binder
  B_is_binder : Binds K A.d_is_binder ["value"] []
  m_is_binder : mg "is_binder" = some (.ref A.f_is_binder)
  F_is_content : Fun K "is_content" "is_content" s_is_content A.f_is_content A.d_is_content
  B_is_content : Binds K A.d_is_content ["kind", "content"] []
  m_is_content : mg "is_content" = some (.ref A.f_is_content)
  F_is_make : Fun K "is_make" "is_make" s_is_make A.f_is_make A.d_is_make
  B_is_make : Binds K A.d_is_make ["body"] []
  m_is_make : mg "is_make" = some (.ref A.f_is_make)
  F_is_placing_body : Fun K "is_placing_body" "is_placing_body" s_is_placing_body A.f_is_placing_body A.d_is_placing_body
  B_is_placing_body : Binds K A.d_is_placing_body ["body"] []
  m_is_placing_body : mg "is_placing_body" = some (.ref A.f_is_placing_body)
  F_is_content_body : Fun K "is_content_body" "is_content_body" s_is_content_body A.f_is_content_body A.d_is_content_body
  B_is_content_body : Binds K A.d_is_content_body ["body"] []
  m_is_content_body : mg "is_content_body" = some (.ref A.f_is_content_body)
  F_is_body : Fun K "is_body" "is_body" s_is_body A.f_is_body A.d_is_body
  B_is_body : Binds K A.d_is_body ["value"] []
  m_is_body : mg "is_body" = some (.ref A.f_is_body)
  F_is_seen : Fun K "is_seen" "is_seen" s_is_seen A.f_is_seen A.d_is_seen
  B_is_seen : Binds K A.d_is_seen ["value", "stamp"] []
  m_is_seen : mg "is_seen" = some (.ref A.f_is_seen)
  F_is_deed : Fun K "is_deed" "is_deed" s_is_deed A.f_is_deed A.d_is_deed
  B_is_deed : Binds K A.d_is_deed ["value"] []
  m_is_deed : mg "is_deed" = some (.ref A.f_is_deed)
  F_does_hold : Fun K "does_hold" "does_hold" s_does_hold A.f_does_hold A.d_does_hold
  B_does_hold : Binds K A.d_does_hold ["kind"] []
  m_does_hold : mg "does_hold" = some (.ref A.f_does_hold)
  F__law_a_name : Fun K "_law_a_name" "_law_a_name" s__law_a_name A.f__law_a_name A.d__law_a_name
  B__law_a_name : Binds K A.d__law_a_name ["value"] []
  m__law_a_name : mg "_law_a_name" = some (.ref A.f__law_a_name)
  F__law_whole : Fun K "_law_whole" "_law_whole" s__law_whole A.f__law_whole A.d__law_whole
  B__law_whole : Binds K A.d__law_whole ["value", "low", "high"] []
  m__law_whole : mg "_law_whole" = some (.ref A.f__law_whole)
  F__law_a_stamp : Fun K "_law_a_stamp" "_law_a_stamp" s__law_a_stamp A.f__law_a_stamp A.d__law_a_stamp
  B__law_a_stamp : Binds K A.d__law_a_stamp ["value"] []
  m__law_a_stamp : mg "_law_a_stamp" = some (.ref A.f__law_a_stamp)
  F__law_a_place : Fun K "_law_a_place" "_law_a_place" s__law_a_place A.f__law_a_place A.d__law_a_place
  B__law_a_place : Binds K A.d__law_a_place ["value"] []
  m__law_a_place : mg "_law_a_place" = some (.ref A.f__law_a_place)
  F__law_a_content : Fun K "_law_a_content" "_law_a_content" s__law_a_content A.f__law_a_content A.d__law_a_content
  B__law_a_content : Binds K A.d__law_a_content ["kind", "value"] []
  m__law_a_content : mg "_law_a_content" = some (.ref A.f__law_a_content)
  F__law_a_body : Fun K "_law_a_body" "_law_a_body" s__law_a_body A.f__law_a_body A.d__law_a_body
  B__law_a_body : Binds K A.d__law_a_body ["value"] []
  m__law_a_body : mg "_law_a_body" = some (.ref A.f__law_a_body)
  F__law_a_deed : Fun K "_law_a_deed" "_law_a_deed" s__law_a_deed A.f__law_a_deed A.d__law_a_deed
  B__law_a_deed : Binds K A.d__law_a_deed ["value"] []
  m__law_a_deed : mg "_law_a_deed" = some (.ref A.f__law_a_deed)
  F__law_value_right : Fun K "_law_value_right" "_law_value_right" s__law_value_right A.f__law_value_right A.d__law_value_right
  B__law_value_right : Binds K A.d__law_value_right ["value"] []
  m__law_value_right : mg "_law_value_right" = some (.ref A.f__law_value_right)
  F__law_caught : Fun K "_law_caught" "_law_caught" s__law_caught A.f__law_caught A.d__law_caught
  B__law_caught : Binds K A.d__law_caught ["call"] []
  m__law_caught : mg "_law_caught" = some (.ref A.f__law_caught)
  F_check_deed : Fun K "check_deed" "check_deed" s_check_deed A.f_check_deed A.d_check_deed
  B_check_deed : Binds K A.d_check_deed ["deed"] []
  m_check_deed : mg "check_deed" = some (.ref A.f_check_deed)
  F_is_mark : Fun K "is_mark" "is_mark" s_is_mark A.f_is_mark A.d_is_mark
  B_is_mark : Binds K A.d_is_mark ["deed"] []
  m_is_mark : mg "is_mark" = some (.ref A.f_is_mark)
  F_in_stamp_order : Fun K "in_stamp_order" "in_stamp_order" s_in_stamp_order A.f_in_stamp_order A.d_in_stamp_order
  B_in_stamp_order : Binds K A.d_in_stamp_order ["some"] []
  m_in_stamp_order : mg "in_stamp_order" = some (.ref A.f_in_stamp_order)
  F_names_in : Fun K "names_in" "names_in" s_names_in A.f_names_in A.d_names_in
  B_names_in : Binds K A.d_names_in ["body"] []
  m_names_in : mg "names_in" = some (.ref A.f_names_in)
  F_named_by : Fun K "named_by" "named_by" s_named_by A.f_named_by A.d_named_by
  B_named_by : Binds K A.d_named_by ["deed"] []
  m_named_by : mg "named_by" = some (.ref A.f_named_by)
  F__law_stamps : Fun K "_law_stamps" "_law_stamps" s__law_stamps A.f__law_stamps A.d__law_stamps
  B__law_stamps : Binds K A.d__law_stamps ["some"] []
  m__law_stamps : mg "_law_stamps" = some (.ref A.f__law_stamps)
  F__law_names : Fun K "_law_names" "_law_names" s__law_names A.f__law_names A.d__law_names
  B__law_names : Binds K A.d__law_names ["deed"] []
  m__law_names : mg "_law_names" = some (.ref A.f__law_names)
  F_check_hand : Fun K "check_hand" "check_hand" s_check_hand A.f_check_hand A.d_check_hand
  B_check_hand : Binds K A.d_check_hand ["hand"] []
  m_check_hand : mg "check_hand" = some (.ref A.f_check_hand)
  F_time_seen : Fun K "time_seen" "time_seen" s_time_seen A.f_time_seen A.d_time_seen
  B_time_seen : Binds K A.d_time_seen ["deed", "hand"] []
  m_time_seen : mg "time_seen" = some (.ref A.f_time_seen)
  F__law_deed_right : Fun K "_law_deed_right" "_law_deed_right" s__law_deed_right A.f__law_deed_right A.d__law_deed_right
  B__law_deed_right : Binds K A.d__law_deed_right ["source", "deed"] []
  m__law_deed_right : mg "_law_deed_right" = some (.ref A.f__law_deed_right)
  F_law : Fun K "law" "law" s_law A.f_law A.d_law
  B_law : Binds K A.d_law ["script"] []
  m_law : mg "law" = some (.ref A.f_law)
  c_NoDeed : mg "NoDeed" = some (.ref A.C_NoDeed)
  c_NoHand : mg "NoHand" = some (.ref A.C_NoHand)
  c_NoBook : mg "NoBook" = some (.ref A.C_NoBook)
  c_NotClosed : mg "NotClosed" = some (.ref A.C_NotClosed)
  c_Unseen : mg "Unseen" = some (.ref A.C_Unseen)
  c_NoBody : mg "NoBody" = some (.ref A.C_NoBody)
  c_NoStamp : mg "NoStamp" = some (.ref A.C_NoStamp)
  c_NoStamps : mg "NoStamps" = some (.ref A.C_NoStamps)
  c_NoMenu : mg "NoMenu" = some (.ref A.C_NoMenu)
  c_NoPacket : mg "NoPacket" = some (.ref A.C_NoPacket)
  c_NothingBack : mg "NothingBack" = some (.ref A.C_NothingBack)
  c_NoHands : mg "NoHands" = some (.ref A.C_NoHands)
  c_NoBranches : mg "NoBranches" = some (.ref A.C_NoBranches)
  c_TooMany : mg "TooMany" = some (.ref A.C_TooMany)
  M_NoBook : ∀ c b, mt_NoBook A c = some b → PySem.W.exmOne K (.ref c) (.ref A.C_NoBook) = some b
  M_NotClosed : ∀ c b, mt_NotClosed A c = some b → PySem.W.exmOne K (.ref c) (.ref A.C_NotClosed) = some b
  M_Unseen : ∀ c b, mt_Unseen A c = some b → PySem.W.exmOne K (.ref c) (.ref A.C_Unseen) = some b
  M_NoBody : ∀ c b, mt_NoBody A c = some b → PySem.W.exmOne K (.ref c) (.ref A.C_NoBody) = some b
  M_NoStamp : ∀ c b, mt_NoStamp A c = some b → PySem.W.exmOne K (.ref c) (.ref A.C_NoStamp) = some b
  M_NoStamps : ∀ c b, mt_NoStamps A c = some b → PySem.W.exmOne K (.ref c) (.ref A.C_NoStamps) = some b
  M_NoMenu : ∀ c b, mt_NoMenu A c = some b → PySem.W.exmOne K (.ref c) (.ref A.C_NoMenu) = some b
  M_NoPacket : ∀ c b, mt_NoPacket A c = some b → PySem.W.exmOne K (.ref c) (.ref A.C_NoPacket) = some b
  M_NothingBack : ∀ c b, mt_NothingBack A c = some b → PySem.W.exmOne K (.ref c) (.ref A.C_NothingBack) = some b
  M_NoHands : ∀ c b, mt_NoHands A c = some b → PySem.W.exmOne K (.ref c) (.ref A.C_NoHands) = some b
  M_NoBranches : ∀ c b, mt_NoBranches A c = some b → PySem.W.exmOne K (.ref c) (.ref A.C_NoBranches) = some b
  M_TooMany : ∀ c b, mt_TooMany A c = some b → PySem.W.exmOne K (.ref c) (.ref A.C_TooMany) = some b
  g_HOLDERS : mg "HOLDERS" = some (.ref A.g_HOLDERS)
  t_HOLDERS : TupC ⟨K, wd⟩ A.g_HOLDERS [.str ("block" : Str), .str ("let" : Str), .str ("sum" : Str), .str ("product" : Str)]
  g_MARK_WORDS : mg "MARK_WORDS" = some (.ref A.g_MARK_WORDS)
  t_MARK_WORDS : TupC ⟨K, wd⟩ A.g_MARK_WORDS [.str ("undo" : Str), .str ("redo" : Str)]
  g_MOST_HAND : ∃ t, mg "MOST_HAND" = some (.int 3 t)
  g_MOST_KEY : ∃ t, mg "MOST_KEY" = some (.int 999 t)
  g_MOST_TIME : ∃ t, mg "MOST_TIME" = some (.int 999 t)
  g_MOST_VALUE : ∃ t, mg "MOST_VALUE" = some (.int 99 t)
  g_NAME_LETTERS : ∃ t, mg "NAME_LETTERS" = some (.str ("abcdefghijklmnopqrstuvwxyz" : Str) t)
  g_ROOT : mg "ROOT" = some (.ref A.g_ROOT)
  t_ROOT : TupC ⟨K, wd⟩ A.g_ROOT [.int 0, .int 0]
  b_all : mg "all" = none
  b_bool : mg "bool" = none
  b_dict : mg "dict" = none
  b_int : mg "int" = none
  b_isinstance : mg "isinstance" = none
  b_len : mg "len" = none
  b_list : mg "list" = none
  b_max : mg "max" = none
  b_min : mg "min" = none
  b_range : mg "range" = none
  b_repr : mg "repr" = none
  b_sorted : mg "sorted" = none
  b_str : mg "str" = none
  b_tuple : mg "tuple" = none
  S_NoDeed : SupC K A.C_NoDeed A.C_NoDeed "told"
  I_NoDeed : PySem.W.findIn K (.ref A.C_NoDeed) "__init__" = some (some (.ref A.f_NoDeed___init__))
  Y_NoDeed : PySem.W.typeIn K (.ref A.f_NoDeed___init__) = some (.type "function")
  B_NoDeed___init__ : Binds K A.d_NoDeed___init__ ["self", "told"] []
  E_NoDeed : ∀ base, FnOk P wd K mg base (L2.CX P wd) 1 A.f_NoDeed___init__ A.d_NoDeed___init__ ["self", "told"] (spSup K A.C_NoDeed "told")
  X_NoDeed : XfC K A.C_NoDeed
  M_NoDeed : ∀ c b, mt_NoDeed A c = some b → PySem.W.exmOne K (.ref c) (.ref A.C_NoDeed) = some b
  S_NoHand : SupC K A.C_NoHand A.C_NoHand "told"
  I_NoHand : PySem.W.findIn K (.ref A.C_NoHand) "__init__" = some (some (.ref A.f_NoHand___init__))
  Y_NoHand : PySem.W.typeIn K (.ref A.f_NoHand___init__) = some (.type "function")
  B_NoHand___init__ : Binds K A.d_NoHand___init__ ["self", "told"] []
  E_NoHand : ∀ base, FnOk P wd K mg base (L2.CX P wd) 1 A.f_NoHand___init__ A.d_NoHand___init__ ["self", "told"] (spSup K A.C_NoHand "told")
  X_NoHand : XfC K A.C_NoHand
  M_NoHand : ∀ c b, mt_NoHand A c = some b → PySem.W.exmOne K (.ref c) (.ref A.C_NoHand) = some b
  ne_NoHand_NoDeed : A.C_NoHand ≠ A.C_NoDeed
  ne_NoBook_NoDeed : A.C_NoBook ≠ A.C_NoDeed
  ne_NoBook_NoHand : A.C_NoBook ≠ A.C_NoHand
  ne_NotClosed_NoDeed : A.C_NotClosed ≠ A.C_NoDeed
  ne_NotClosed_NoHand : A.C_NotClosed ≠ A.C_NoHand
  ne_NotClosed_NoBook : A.C_NotClosed ≠ A.C_NoBook
  ne_Unseen_NoDeed : A.C_Unseen ≠ A.C_NoDeed
  ne_Unseen_NoHand : A.C_Unseen ≠ A.C_NoHand
  ne_Unseen_NoBook : A.C_Unseen ≠ A.C_NoBook
  ne_Unseen_NotClosed : A.C_Unseen ≠ A.C_NotClosed
  ne_NoBody_NoDeed : A.C_NoBody ≠ A.C_NoDeed
  ne_NoBody_NoHand : A.C_NoBody ≠ A.C_NoHand
  ne_NoBody_NoBook : A.C_NoBody ≠ A.C_NoBook
  ne_NoBody_NotClosed : A.C_NoBody ≠ A.C_NotClosed
  ne_NoBody_Unseen : A.C_NoBody ≠ A.C_Unseen
  ne_NoStamp_NoDeed : A.C_NoStamp ≠ A.C_NoDeed
  ne_NoStamp_NoHand : A.C_NoStamp ≠ A.C_NoHand
  ne_NoStamp_NoBook : A.C_NoStamp ≠ A.C_NoBook
  ne_NoStamp_NotClosed : A.C_NoStamp ≠ A.C_NotClosed
  ne_NoStamp_Unseen : A.C_NoStamp ≠ A.C_Unseen
  ne_NoStamp_NoBody : A.C_NoStamp ≠ A.C_NoBody
  ne_NoStamps_NoDeed : A.C_NoStamps ≠ A.C_NoDeed
  ne_NoStamps_NoHand : A.C_NoStamps ≠ A.C_NoHand
  ne_NoStamps_NoBook : A.C_NoStamps ≠ A.C_NoBook
  ne_NoStamps_NotClosed : A.C_NoStamps ≠ A.C_NotClosed
  ne_NoStamps_Unseen : A.C_NoStamps ≠ A.C_Unseen
  ne_NoStamps_NoBody : A.C_NoStamps ≠ A.C_NoBody
  ne_NoStamps_NoStamp : A.C_NoStamps ≠ A.C_NoStamp
  ne_NoMenu_NoDeed : A.C_NoMenu ≠ A.C_NoDeed
  ne_NoMenu_NoHand : A.C_NoMenu ≠ A.C_NoHand
  ne_NoMenu_NoBook : A.C_NoMenu ≠ A.C_NoBook
  ne_NoMenu_NotClosed : A.C_NoMenu ≠ A.C_NotClosed
  ne_NoMenu_Unseen : A.C_NoMenu ≠ A.C_Unseen
  ne_NoMenu_NoBody : A.C_NoMenu ≠ A.C_NoBody
  ne_NoMenu_NoStamp : A.C_NoMenu ≠ A.C_NoStamp
  ne_NoMenu_NoStamps : A.C_NoMenu ≠ A.C_NoStamps
  ne_NoPacket_NoDeed : A.C_NoPacket ≠ A.C_NoDeed
  ne_NoPacket_NoHand : A.C_NoPacket ≠ A.C_NoHand
  ne_NoPacket_NoBook : A.C_NoPacket ≠ A.C_NoBook
  ne_NoPacket_NotClosed : A.C_NoPacket ≠ A.C_NotClosed
  ne_NoPacket_Unseen : A.C_NoPacket ≠ A.C_Unseen
  ne_NoPacket_NoBody : A.C_NoPacket ≠ A.C_NoBody
  ne_NoPacket_NoStamp : A.C_NoPacket ≠ A.C_NoStamp
  ne_NoPacket_NoStamps : A.C_NoPacket ≠ A.C_NoStamps
  ne_NoPacket_NoMenu : A.C_NoPacket ≠ A.C_NoMenu
  ne_NothingBack_NoDeed : A.C_NothingBack ≠ A.C_NoDeed
  ne_NothingBack_NoHand : A.C_NothingBack ≠ A.C_NoHand
  ne_NothingBack_NoBook : A.C_NothingBack ≠ A.C_NoBook
  ne_NothingBack_NotClosed : A.C_NothingBack ≠ A.C_NotClosed
  ne_NothingBack_Unseen : A.C_NothingBack ≠ A.C_Unseen
  ne_NothingBack_NoBody : A.C_NothingBack ≠ A.C_NoBody
  ne_NothingBack_NoStamp : A.C_NothingBack ≠ A.C_NoStamp
  ne_NothingBack_NoStamps : A.C_NothingBack ≠ A.C_NoStamps
  ne_NothingBack_NoMenu : A.C_NothingBack ≠ A.C_NoMenu
  ne_NothingBack_NoPacket : A.C_NothingBack ≠ A.C_NoPacket
  ne_NoHands_NoDeed : A.C_NoHands ≠ A.C_NoDeed
  ne_NoHands_NoHand : A.C_NoHands ≠ A.C_NoHand
  ne_NoHands_NoBook : A.C_NoHands ≠ A.C_NoBook
  ne_NoHands_NotClosed : A.C_NoHands ≠ A.C_NotClosed
  ne_NoHands_Unseen : A.C_NoHands ≠ A.C_Unseen
  ne_NoHands_NoBody : A.C_NoHands ≠ A.C_NoBody
  ne_NoHands_NoStamp : A.C_NoHands ≠ A.C_NoStamp
  ne_NoHands_NoStamps : A.C_NoHands ≠ A.C_NoStamps
  ne_NoHands_NoMenu : A.C_NoHands ≠ A.C_NoMenu
  ne_NoHands_NoPacket : A.C_NoHands ≠ A.C_NoPacket
  ne_NoHands_NothingBack : A.C_NoHands ≠ A.C_NothingBack
  ne_NoBranches_NoDeed : A.C_NoBranches ≠ A.C_NoDeed
  ne_NoBranches_NoHand : A.C_NoBranches ≠ A.C_NoHand
  ne_NoBranches_NoBook : A.C_NoBranches ≠ A.C_NoBook
  ne_NoBranches_NotClosed : A.C_NoBranches ≠ A.C_NotClosed
  ne_NoBranches_Unseen : A.C_NoBranches ≠ A.C_Unseen
  ne_NoBranches_NoBody : A.C_NoBranches ≠ A.C_NoBody
  ne_NoBranches_NoStamp : A.C_NoBranches ≠ A.C_NoStamp
  ne_NoBranches_NoStamps : A.C_NoBranches ≠ A.C_NoStamps
  ne_NoBranches_NoMenu : A.C_NoBranches ≠ A.C_NoMenu
  ne_NoBranches_NoPacket : A.C_NoBranches ≠ A.C_NoPacket
  ne_NoBranches_NothingBack : A.C_NoBranches ≠ A.C_NothingBack
  ne_NoBranches_NoHands : A.C_NoBranches ≠ A.C_NoHands
  ne_TooMany_NoDeed : A.C_TooMany ≠ A.C_NoDeed
  ne_TooMany_NoHand : A.C_TooMany ≠ A.C_NoHand
  ne_TooMany_NoBook : A.C_TooMany ≠ A.C_NoBook
  ne_TooMany_NotClosed : A.C_TooMany ≠ A.C_NotClosed
  ne_TooMany_Unseen : A.C_TooMany ≠ A.C_Unseen
  ne_TooMany_NoBody : A.C_TooMany ≠ A.C_NoBody
  ne_TooMany_NoStamp : A.C_TooMany ≠ A.C_NoStamp
  ne_TooMany_NoStamps : A.C_TooMany ≠ A.C_NoStamps
  ne_TooMany_NoMenu : A.C_TooMany ≠ A.C_NoMenu
  ne_TooMany_NoPacket : A.C_TooMany ≠ A.C_NoPacket
  ne_TooMany_NothingBack : A.C_TooMany ≠ A.C_NothingBack
  ne_TooMany_NoHands : A.C_TooMany ≠ A.C_NoHands
  ne_TooMany_NoBranches : A.C_TooMany ≠ A.C_NoBranches
def m__law_rounds (A : Ads) : Fn := runF 1 (sRet (mBlt (fLrg true) (aCons (mBlt fMaxA (aCons (mC (.int 1)) (aCons (mBlt fMinA (aCons (mBlt fLenA (aCons (mVar 0) aNil)) (aCons (mC (.int 3)) aNil))) aNil))) aNil)))
def m__law_pool (A : Ads) : Fn := runF 5 (sSeq (sAsg (gN 2) (mC (.int 0))) (sSeq (sIf (mT (mOp dLt (mVar 1) (mBlt fLenA (aCons (mVar 0) aNil)))) (sAsg (gN 2) (mOp dIxA (mVar 0) (mVar 1))) sPass) (sSeq (sAsg (gN 3) (mBlt fMaxA (aCons (mBlt fInt (aCons (mVar 2) aNil)) (aCons (mBlt fInt (aCons (mOp dSub (mUn dNeg (mC (.int 1))) (mVar 2)) aNil)) aNil)))) (sSeq (sAsg (gN 4) (mOp dMod (mBlt fInt (aCons (mOp dMul (mOp (dAdd true) (mOp (dAdd true) (mOp (dAdd true) (mOp dMod (mBlt fInt (aCons (mVar 3) aNil)) (mC (.int 2147483629))) (mOp dMul (mOp dMul (mC (.int 7919)) (mVar 1)) (mVar 1))) (mOp dMul (mC (.int 31)) (mVar 1))) (mC (.int 17))) (mC (.int 48271))) aNil)) (mC (.int 2147483647)))) (sRet (mLst false (aCons (mOp dMul (mVar 3) (mBlt fInt (aCons (mOp dGe (mVar 3) (mOp dPow (mC (.int 10)) (mC (.int 18)))) aNil))) (aCons (mVar 4) aNil))))))))
def m__law_world (A : Ads) : Fn := runF 2 (sRet (mLst true (aCons (mLst false aNil) (aCons (mLc false [1] (iRg rng1 (aCons (mC (.int 4)) aNil)) (gN 1) bYes (mLst true (aCons (mC (.int 0)) (aCons (mC (.int 0)) (aCons (mC (.int 0)) (aCons (mC (.int 0)) aNil)))))) (aCons (mVar 0) aNil)))))
def m__law_take (A : Ads) : Fn := runF 3 (sSeq (sIf (mT (mOp dGt (mOp dIxA (mVar 0) (mC (.int 0))) (mC (.int 0)))) (sSeq (sAsg (gN 2) (mOp dMod (mBlt fInt (aCons (mOp dIxA (mVar 0) (mC (.int 0))) aNil)) (mVar 1))) (sSeq (sSub (mOp dDiv (mOp dIxA (mVar 0) (mC (.int 0))) (mVar 1)) (mVar 0) (mC (.int 0))) (sRet (mVar 2)))) sPass) (sSeq (sSub (mOp dMod (mBlt fInt (aCons (mOp (dAdd true) (mOp dMul (mOp dIxA (mVar 0) (mC (.int 1))) (mC (.int 39373))) (mC (.int 7))) aNil)) (mC (.int 2147483647))) (mVar 0) (mC (.int 1))) (sRet (mOp dMod (mBlt fInt (aCons (mOp dDiv (mOp dMod (mBlt fInt (aCons (mOp dMul (mOp dIxA (mVar 0) (mC (.int 1))) (mOp dIxA (mVar 0) (mC (.int 1)))) aNil)) (mC (.int 2147483629))) (mC (.int 32))) aNil)) (mVar 1)))))
def m__law_one (A : Ads) : Fn := runF 2 (sRet (mOp dIxA (mVar 1) (mCall 2 (m__law_take A) (aCons (mVar 0) (aCons (mBlt fLenA (aCons (mVar 1) aNil)) aNil)))))
def m__law_do (A : Ads) : Fn := runF 8 (sSeq (sAsg (gN 4) (mOp dIxA (mOp dIxA (mVar 1) (mC (.int 1))) (mVar 2))) (sSeq (sAsg (gN 5) (mTup (aCons (mOp (dAdd true) (mOp (dAdd true) (mC (.int 1)) (mBlt fMaxA (aCons (mLc true [6] (iAny (mVar 4)) (gN 6) bYes (mBlt fInt (aCons (mVar 6) aNil))) aNil))) (mCall 2 (m__law_one A) (aCons (mVar 0) (aCons (mLst true (aCons (mC (.int 0)) (aCons (mC (.int 0)) (aCons (mC (.int 0)) (aCons (mC (.int 1)) (aCons (mC (.int 4)) aNil)))))) aNil)))) (aCons (mVar 2) aNil)))) (sSeq (sDrop (mAppend (mOp dIxA (mVar 1) (mC (.int 0))) (mTup (aCons (mVar 5) (aCons (mBlt fTuple (aCons (mVar 4) aNil)) (aCons (mVar 3) aNil)))))) (sSeq (sSub (mLc true [7] (iRg rng1 (aCons (mC (.int 4)) aNil)) (gN 7) bYes (mIf (mT (mOp (dEqA false) (mVar 7) (mVar 2))) (mOp dIxA (mVar 5) (mC (.int 0))) (mOp dIxA (mVar 4) (mVar 7)))) (mOp dIxA (mVar 1) (mC (.int 1))) (mVar 2)) (sRet (mVar 5))))))
def m__law_learn (A : Ads) : Fn := runF 8 (sSeq (sAsg (gN 3) (mCall 2 (m__law_take A) (aCons (mVar 0) (aCons (mOp dIxA (mVar 1) (mC (.int 2))) aNil)))) (sSeq (sAsg (gN 4) (mLc true [6] (iAny (mOp dIxA (mVar 1) (mC (.int 0)))) (gN 6) (mT (mOp (dEqA false) (mOp dIxA (mOp dIxA (mVar 6) (mC (.int 0))) (mC (.int 1))) (mVar 3))) (mVar 6))) (sSeq (sAsg (gN 5) (mBlt (fList false) (aCons (mOp dIxA (mOp dIxA (mVar 1) (mC (.int 1))) (mVar 3)) aNil))) (sSeq (sIf (mAnd (mT (mOp (dEqA true) (mVar 4) (mLst true aNil))) (mT (mOp (dEqA false) (mCall 2 (m__law_take A) (aCons (mVar 0) (aCons (mC (.int 3)) aNil))) (mC (.int 0))))) (sSeq (sAsg (gN 6) (mCall 2 (m__law_one A) (aCons (mVar 0) (aCons (mVar 4) aNil)))) (sSeq (sAsg (gN 5) (mBlt (fList false) (aCons (mOp dIxA (mVar 6) (mC (.int 1))) aNil))) (sSub (mOp dIxA (mOp dIxA (mVar 6) (mC (.int 0))) (mC (.int 0))) (mVar 5) (mVar 3)))) sPass) (sSub (mLc true [7] (iRg rng1 (aCons (mC (.int 4)) aNil)) (gN 7) bYes (mBlt fMaxA (aCons (mBlt fInt (aCons (mOp dIxA (mVar 5) (mVar 7)) aNil)) (aCons (mBlt fInt (aCons (mOp dIxA (mOp dIxA (mOp dIxA (mVar 1) (mC (.int 1))) (mVar 2)) (mVar 7)) aNil)) aNil)))) (mOp dIxA (mVar 1) (mC (.int 1))) (mVar 2))))))
def m__law_content (A : Ads) : Fn := runF 6 (sSeq (sIf (mT (mOp (dEqA false) (mVar 1) (mC (.str ("let" : Str))))) (sRet (mCall 2 (m__law_one A) (aCons (mVar 0) (aCons (mLst true (aCons (mC (.str ("x" : Str))) (aCons (mC (.str ("x" : Str))) (aCons (mC (.str ("y" : Str))) (aCons (mC (.str ("abcd" : Str))) aNil))))) aNil)))) sPass) (sSeq (sIf (mT (mOp (dEqA false) (mVar 1) (mC (.str ("number" : Str))))) (sRet (mCall 2 (m__law_one A) (aCons (mVar 0) (aCons (mLst true (aCons (mC (.int 0)) (aCons (mC (.int 1)) (aCons (mC (.int 2)) (aCons (mC (.int 7)) (aCons (mC (.int 99)) aNil)))))) aNil)))) sPass) (sSeq (sIf (mT (mOp (dEqA false) (mVar 1) (mC (.str ("use" : Str))))) (sSeq (sAsg (gN 3) (mLc true [5] (iAny (mVar 2)) (gN 5) (mT (mOp (dEqA false) (mSl true (mOp dIxA (mVar 5) (mC (.int 2))) oNo (oSo (mC (.int 2)))) (mTup (aCons (mC (.str ("make" : Str))) (aCons (mC (.str ("let" : Str))) aNil))))) (mOp dIxA (mVar 5) (mC (.int 0))))) (sSeq (sAsg (gN 4) (mOp (dAdd true) (mLst true (aCons (mC .non) (aCons (mTup (aCons (mC (.int 0)) (aCons (mC (.int 0)) aNil))) aNil))) (mSl true (mLc true [5] (iAny (mVar 2)) (gN 5) bYes (mOp dIxA (mVar 5) (mC (.int 0)))) oNo (oSo (mC (.int 1)))))) (sRet (mCall 2 (m__law_one A) (aCons (mVar 0) (aCons (mOp (dAdd true) (mOp (dAdd true) (mOp (dAdd true) (mVar 3) (mVar 3)) (mVar 3)) (mVar 4)) aNil)))))) sPass) (sRet (mC .non)))))
def m__law_holders (A : Ads) : Fn := runF 3 (sSeq (sAsg (gN 1) (mLst true (aCons (mC (.str ("block" : Str))) (aCons (mC (.str ("let" : Str))) (aCons (mC (.str ("sum" : Str))) (aCons (mC (.str ("product" : Str))) aNil)))))) (sRet (mOp (dAdd true) (mLst true (aCons (mTup (aCons (mC (.int 0)) (aCons (mC (.int 0)) aNil))) aNil)) (mLc true [2] (iAny (mVar 0)) (gN 2) (mAnd (mT (mOp (dEqA false) (mOp dIxA (mOp dIxA (mVar 2) (mC (.int 2))) (mC (.int 0))) (mC (.str ("make" : Str))))) (mT (mOp (dInA false) (mOp dIxA (mOp dIxA (mVar 2) (mC (.int 2))) (mC (.int 1))) (mVar 1)))) (mOp dIxA (mVar 2) (mC (.int 0)))))))
def m__law_made_body (A : Ads) : Fn := runF 4 (sSeq (sAsg (gN 2) (mCall 2 (m__law_one A) (aCons (mVar 0) (aCons (mLst true (aCons (mC (.str ("let" : Str))) (aCons (mC (.str ("let" : Str))) (aCons (mC (.str ("use" : Str))) (aCons (mC (.str ("use" : Str))) (aCons (mC (.str ("number" : Str))) (aCons (mC (.str ("block" : Str))) (aCons (mC (.str ("sum" : Str))) (aCons (mC (.str ("product" : Str))) aNil))))))))) aNil)))) (sSeq (sAsg (gN 3) (mCall 2 (m__law_one A) (aCons (mVar 0) (aCons (mOp (dAdd true) (mCall 1 (m__law_holders A) (aCons (mVar 1) aNil)) (mLst true (aCons (mTup (aCons (mC (.int 0)) (aCons (mC (.int 0)) aNil))) aNil))) aNil)))) (sRet (mTup (aCons (mC (.str ("make" : Str))) (aCons (mVar 2) (aCons (mVar 3) (aCons (mCall 2 (m__law_one A) (aCons (mVar 0) (aCons (mLst true (aCons (mC (.int 0)) (aCons (mC (.int 1)) (aCons (mC (.int 2)) (aCons (mC (.int 2)) (aCons (mC (.int 5)) (aCons (mC (.int 999)) aNil))))))) aNil))) (aCons (mCall 3 (m__law_content A) (aCons (mVar 0) (aCons (mVar 2) (aCons (mVar 1) aNil)))) aNil)))))))))
def m__law_body (A : Ads) : Fn := runF 11 (sSeq (sAsg (gN 2) (mLc true [10] (iAny (mVar 1)) (gN 10) (mT (mOp (dEqA false) (mOp dIxA (mOp dIxA (mVar 10) (mC (.int 2))) (mC (.int 0))) (mC (.str ("make" : Str))))) (mVar 10))) (sSeq (sAsg (gN 3) (mLst true (aCons (mC (.str ("make" : Str))) (aCons (mC (.str ("make" : Str))) (aCons (mC (.str ("make" : Str))) (aCons (mC (.str ("make" : Str))) (aCons (mC (.str ("move" : Str))) (aCons (mC (.str ("move" : Str))) (aCons (mC (.str ("drop" : Str))) (aCons (mC (.str ("wish" : Str))) (aCons (mC (.str ("point" : Str))) (aCons (mC (.str ("set" : Str))) (aCons (mC (.str ("undo" : Str))) (aCons (mC (.str ("redo" : Str))) aNil)))))))))))))) (sSeq (sAsg (gN 4) (mCall 2 (m__law_one A) (aCons (mVar 0) (aCons (mVar 3) aNil)))) (sSeq (sIf (mOr (mT (mOp (dEqA false) (mVar 4) (mC (.str ("make" : Str))))) (mT (mOp (dEqA false) (mVar 2) (mLst true aNil)))) (sRet (mCall 2 (m__law_made_body A) (aCons (mVar 0) (aCons (mVar 1) aNil)))) sPass) (sSeq (sIf (mT (mOp (dInA false) (mVar 4) (mLst true (aCons (mC (.str ("undo" : Str))) (aCons (mC (.str ("redo" : Str))) aNil))))) (sRet (mTup (aCons (mVar 4) (aCons (mCall 2 (m__law_one A) (aCons (mVar 0) (aCons (mLc true [10] (iAny (mVar 1)) (gN 10) bYes (mOp dIxA (mVar 10) (mC (.int 0)))) aNil))) aNil)))) sPass) (sSeq (sAsg (gN 5) (mDget2 (mDct [Sum.inr ("wish" : Str), Sum.inr ("point" : Str), Sum.inr ("set" : Str)] (aCons (mC (.str ("let" : Str))) (aCons (mC (.str ("use" : Str))) (aCons (mC (.str ("number" : Str))) aNil)))) (mVar 4) (mC .non))) (sSeq (sAsg (gN 6) (mLc true [10] (iAny (mVar 2)) (gN 10) (mOr (mT (mOp (dIs false) (mVar 5) (mC .non))) (mT (mOp (dEqA false) (mOp dIxA (mOp dIxA (mVar 10) (mC (.int 2))) (mC (.int 1))) (mVar 5)))) (mOp dIxA (mVar 10) (mC (.int 0))))) (sSeq (sAsg (gN 7) (mOp (dAdd true) (mLst true (aCons (mTup (aCons (mC (.int 0)) (aCons (mC (.int 0)) aNil))) aNil)) (mLc true [10] (iAny (mVar 1)) (gN 10) bYes (mOp dIxA (mVar 10) (mC (.int 0)))))) (sSeq (sAsg (gN 8) (mCall 2 (m__law_one A) (aCons (mVar 0) (aCons (mIf (mAnd (mT (mOp (dEqA true) (mVar 6) (mLst true aNil))) (mT (mOp dGt (mCall 2 (m__law_take A) (aCons (mVar 0) (aCons (mC (.int 9)) aNil))) (mC (.int 0))))) (mVar 6) (mVar 7)) aNil)))) (sSeq (sIf (mT (mOp (dEqA false) (mVar 4) (mC (.str ("drop" : Str))))) (sRet (mTup (aCons (mVar 4) (aCons (mVar 8) aNil)))) sPass) (sSeq (sIf (mT (mOp (dEqA false) (mVar 4) (mC (.str ("move" : Str))))) (sSeq (sAsg (gN 9) (mCall 2 (m__law_one A) (aCons (mVar 0) (aCons (mIf (mT (mOp dGt (mCall 2 (m__law_take A) (aCons (mVar 0) (aCons (mC (.int 9)) aNil))) (mC (.int 0)))) (mCall 1 (m__law_holders A) (aCons (mVar 1) aNil)) (mVar 7)) aNil)))) (sRet (mTup (aCons (mVar 4) (aCons (mVar 8) (aCons (mVar 9) (aCons (mCall 2 (m__law_one A) (aCons (mVar 0) (aCons (mLst true (aCons (mC (.int 0)) (aCons (mC (.int 1)) (aCons (mC (.int 2)) (aCons (mC (.int 5)) (aCons (mC (.int 999)) aNil)))))) aNil))) aNil))))))) sPass) (sRet (mTup (aCons (mVar 4) (aCons (mVar 8) (aCons (mCall 3 (m__law_content A) (aCons (mVar 0) (aCons (mVar 5) (aCons (mVar 1) aNil)))) aNil))))))))))))))))
def m__law_seen_deeds (A : Ads) : Fn := runF 4 (sSeq (sAsg (gN 2) (mOp dIxA (mOp dIxA (mVar 0) (mC (.int 1))) (mVar 1))) (sRet (mLc true [3] (iAny (mOp dIxA (mVar 0) (mC (.int 0)))) (gN 3) (mT (mOp dLe (mOp dIxA (mOp dIxA (mVar 3) (mC (.int 0))) (mC (.int 0))) (mOp dIxA (mVar 2) (mOp dIxA (mOp dIxA (mVar 3) (mC (.int 0))) (mC (.int 1)))))) (mVar 3))))
def m__law_step (A : Ads) : Fn := runF 3 (sSeq (sAsg (gN 2) (mCall 2 (m__law_take A) (aCons (mVar 0) (aCons (mOp dIxA (mVar 1) (mC (.int 2))) aNil)))) (sSeq (sIf (mT (mOp (dEqA false) (mCall 2 (m__law_take A) (aCons (mVar 0) (aCons (mC (.int 2)) aNil))) (mC (.int 0)))) (sDrop (mCall 3 (m__law_learn A) (aCons (mVar 0) (aCons (mVar 1) (aCons (mVar 2) aNil))))) sPass) (sRet (mCall 4 (m__law_do A) (aCons (mVar 0) (aCons (mVar 1) (aCons (mVar 2) (aCons (mCall 2 (m__law_body A) (aCons (mVar 0) (aCons (mCall 2 (m__law_seen_deeds A) (aCons (mVar 1) (aCons (mVar 2) aNil))) aNil))) aNil))))))))
def B__law_drawn_1 (A : Ads) : Sd := (sSub (mBlt (fList true) (aCons (mOp dIxA (mOp dIxA (mVar 3) (mC (.int 1))) (mC (.int 0))) aNil)) (mOp dIxA (mVar 3) (mC (.int 1))) (mVar 5))
def B__law_drawn_2 (A : Ads) : Sd := (sDrop (mCall 2 (m__law_step A) (aCons (mVar 0) (aCons (mVar 3) aNil))))
def m__law_drawn (A : Ads) : Fn := runF 7 (sSeq (sAsg (gN 3) (mCall 1 (m__law_world A) (aCons (mOp (dAdd true) (mC (.int 1)) (mCall 2 (m__law_take A) (aCons (mVar 0) (aCons (mVar 2) aNil)))) aNil))) (sSeq (sIf (mT (mOp dGt (mCall 2 (m__law_take A) (aCons (mVar 0) (aCons (mC (.int 3)) aNil))) (mC (.int 0)))) (sSeq (sAsg (gN 4) (mCall 4 (m__law_do A) (aCons (mVar 0) (aCons (mVar 3) (aCons (mC (.int 0)) (aCons (mTup (aCons (mC (.str ("make" : Str))) (aCons (mC (.str ("let" : Str))) (aCons (mTup (aCons (mC (.int 0)) (aCons (mC (.int 0)) aNil))) (aCons (mC (.int 1)) (aCons (mC (.str ("x" : Str))) aNil)))))) aNil)))))) (sSeq (sDrop (mCall 4 (m__law_do A) (aCons (mVar 0) (aCons (mVar 3) (aCons (mC (.int 0)) (aCons (mTup (aCons (mC (.str ("make" : Str))) (aCons (mC (.str ("use" : Str))) (aCons (mTup (aCons (mC (.int 0)) (aCons (mC (.int 0)) aNil))) (aCons (mC (.int 5)) (aCons (mVar 4) aNil)))))) aNil)))))) (sFor (iRg rng1 (aCons (mOp dIxA (mVar 3) (mC (.int 2))) aNil)) (gN 5) (B__law_drawn_1 A)))) sPass) (sSeq (sFor (iRg rng1 (aCons (mCall 2 (m__law_take A) (aCons (mVar 0) (aCons (mOp (dAdd true) (mVar 1) (mC (.int 1))) aNil))) aNil)) (gN 6) (B__law_drawn_2 A)) (sRet (mVar 3)))))
def m__law_odd (A : Ads) : Fn := runF 2 (sSeq (sAsg (gN 1) (mLst true (aCons (mC .non) (aCons (mC (.bl true)) (aCons (mC (.bl false)) (aCons (mC (.int 0)) (aCons (mC (.int 1)) (aCons (mC (.int 4)) (aCons (mC (.int 1000)) (aCons (mUn dNeg (mC (.int 1))) (aCons (mC (.str ("" : Str))) (aCons (mC (.str ("x" : Str))) (aCons (mC (.str ("X" : Str))) (aCons (mC (.str ("abcde" : Str))) (aCons (mC (.str ("a1" : Str))) (aCons (mC (.str ("let" : Str))) (aCons (mC (.str ("block" : Str))) (aCons (mC (.str ("make" : Str))) (aCons (mC (.str ("none" : Str))) aNil))))))))))))))))))) (sSeq (sAsg (gN 1) (mOp (dAdd true) (mVar 1) (mLst true (aCons (mTup aNil) (aCons (mTup (aCons (mC (.int 0)) (aCons (mC (.int 0)) aNil))) (aCons (mTup (aCons (mC (.int 1)) (aCons (mC (.int 0)) aNil))) (aCons (mTup (aCons (mC (.int 1)) (aCons (mC (.int 4)) aNil))) (aCons (mTup (aCons (mC (.int 0)) (aCons (mC (.int 1)) aNil))) (aCons (mTup (aCons (mC (.bl true)) (aCons (mC (.int 0)) aNil))) (aCons (mTup (aCons (mC (.int 0)) (aCons (mC (.bl false)) aNil))) (aCons (mTup (aCons (mC (.int 1000)) (aCons (mC (.int 0)) aNil))) (aCons (mLst true (aCons (mC (.int 1)) (aCons (mC (.int 0)) aNil))) (aCons (mTup (aCons (mC (.int 1)) (aCons (mC (.int 0)) (aCons (mC (.int 0)) aNil)))) aNil))))))))))))) (sSeq (sAsg (gN 1) (mOp (dAdd true) (mVar 1) (mLst true (aCons (mTup (aCons (mC (.str ("1" : Str))) (aCons (mC (.int 0)) aNil))) (aCons (mC (.dct [] [])) aNil))))) (sSeq (sAsg (gN 1) (mOp (dAdd true) (mVar 1) (mLst true (aCons (mTup (aCons (mC (.int 0)) (aCons (mC (.int 0)) (aCons (mC (.int 0)) (aCons (mC (.int 0)) aNil))))) (aCons (mLst true (aCons (mC (.int 0)) (aCons (mC (.int 0)) (aCons (mC (.int 0)) (aCons (mC (.int 0)) aNil))))) (aCons (mTup (aCons (mC (.int 0)) (aCons (mC (.int 0)) (aCons (mC (.int 0)) aNil)))) (aCons (mTup (aCons (mC (.int 0)) (aCons (mC (.int 0)) (aCons (mC (.int 0)) (aCons (mC (.bl true)) aNil))))) (aCons (mTup (aCons (mC (.str ("drop" : Str))) (aCons (mTup (aCons (mC (.int 1)) (aCons (mC (.int 0)) aNil))) aNil))) (aCons (mTup (aCons (mC (.str ("drop" : Str))) aNil)) aNil))))))))) (sRet (mCall 2 (m__law_one A) (aCons (mVar 0) (aCons (mVar 1) aNil))))))))
def m__law_bent (A : Ads) : Fn := runF 4 (sSeq (sAsg (gN 2) (mCall 2 (m__law_take A) (aCons (mVar 0) (aCons (mC (.int 4)) aNil)))) (sSeq (sIf (mT (mOp (dEqA false) (mVar 2) (mC (.int 0)))) (sRet (mOp (dAdd true) (mVar 1) (mTup (aCons (mCall 1 (m__law_odd A) (aCons (mVar 0) aNil)) aNil)))) sPass) (sSeq (sIf (mT (mOp (dEqA false) (mVar 2) (mC (.int 1)))) (sRet (mSl true (mVar 1) oNo (oSo (mUn dNeg (mC (.int 1)))))) sPass) (sSeq (sAsg (gN 3) (mCall 2 (m__law_take A) (aCons (mVar 0) (aCons (mBlt fLenA (aCons (mVar 1) aNil)) aNil)))) (sRet (mOp (dAdd true) (mOp (dAdd true) (mSl true (mVar 1) oNo (oSo (mVar 3))) (mTup (aCons (mCall 1 (m__law_odd A) (aCons (mVar 0) aNil)) aNil))) (mSl true (mVar 1) (oSo (mOp (dAdd true) (mVar 3) (mC (.int 1)))) oNo)))))))
def m_is_name (A : Ads) : Fn := runF 2 (sRet (vAnd (mIsiA "str" (mVar 0)) (vAnd (mCh dLe dLe (mC (.int 1)) (mBlt fLenA (aCons (mVar 0) aNil)) (mC (.int 4))) (mBlt (fBls (fun l => l.all id)) (aCons (mLc true [1] (iAny (mVar 0)) (gN 1) bYes (mOp (dInA false) (mVar 1) (mC (.str ("abcdefghijklmnopqrstuvwxyz" : Str))))) aNil)))))
def m_is_tuple_of (A : Ads) : Fn := runF 2 (sRet (vAnd (mIsiA "tuple" (mVar 0)) (mOp (dEqA false) (mBlt fLenA (aCons (mVar 0) aNil)) (mVar 1))))
def m_is_whole (A : Ads) : Fn := runF 1 (sRet (vAnd (mIsiA "int" (mVar 0)) (vNot (mIsiA "bool" (mVar 0)))))
def m_is_number (A : Ads) : Fn := runF 3 (sRet (vAnd (mCall 1 (m_is_whole A) (aCons (mVar 0) aNil)) (mCh dLe dLe (mVar 1) (mVar 0) (mVar 2))))
def m_is_stamp (A : Ads) : Fn := runF 1 (sRet (vAnd (mCall 2 (m_is_tuple_of A) (aCons (mVar 0) (aCons (mC (.int 2)) aNil))) (vAnd (mCall 3 (m_is_number A) (aCons (mOp dIxA (mVar 0) (mC (.int 0))) (aCons (mC (.int 1)) (aCons (mC (.int 999)) aNil)))) (mCall 3 (m_is_number A) (aCons (mOp dIxA (mVar 0) (mC (.int 1))) (aCons (mC (.int 0)) (aCons (mC (.int 3)) aNil)))))))
def m_is_place_name (A : Ads) : Fn := runF 1 (sSeq (sIf (mT (mCall 1 (m_is_stamp A) (aCons (mVar 0) aNil))) (sRet (mC (.bl true))) sPass) (sRet (vAnd (mCall 2 (m_is_tuple_of A) (aCons (mVar 0) (aCons (mC (.int 2)) aNil))) (vAnd (mCall 3 (m_is_number A) (aCons (mOp dIxA (mVar 0) (mC (.int 0))) (aCons (mC (.int 0)) (aCons (mC (.int 0)) aNil)))) (mCall 3 (m_is_number A) (aCons (mOp dIxA (mVar 0) (mC (.int 1))) (aCons (mC (.int 0)) (aCons (mC (.int 0)) aNil))))))))
def m_is_binder (A : Ads) : Fn := runF 1 (sRet (vOr (mOp (dIs false) (mVar 0) (mC .non)) (mCall 1 (m_is_place_name A) (aCons (mVar 0) aNil))))
def m_is_content (A : Ads) : Fn := runF 2 (sSeq (sIf (mNot (mT (mIsiA "str" (mVar 0)))) (sRet (mC (.bl false))) sPass) (sSeq (sIf (mT (mOp (dEqA false) (mVar 0) (mC (.str ("let" : Str))))) (sRet (mCall 1 (m_is_name A) (aCons (mVar 1) aNil))) sPass) (sSeq (sIf (mT (mOp (dEqA false) (mVar 0) (mC (.str ("use" : Str))))) (sRet (mCall 1 (m_is_binder A) (aCons (mVar 1) aNil))) sPass) (sSeq (sIf (mT (mOp (dEqA false) (mVar 0) (mC (.str ("number" : Str))))) (sRet (mCall 3 (m_is_number A) (aCons (mVar 1) (aCons (mC (.int 0)) (aCons (mC (.int 99)) aNil))))) sPass) (sRet (vAnd (mOp (dInA false) (mVar 0) (mC (.tup [.str ("block" : Str), .str ("let" : Str), .str ("sum" : Str), .str ("product" : Str)]))) (mOp (dIs false) (mVar 1) (mC .non))))))))
def m_is_make (A : Ads) : Fn := runF 1 (sSeq (sIf (mOr (mT (mOp (dEqA true) (mBlt fLenA (aCons (mVar 0) aNil)) (mC (.int 5)))) (mOr (mNot (mT (mCall 1 (m_is_place_name A) (aCons (mOp dIxA (mVar 0) (mC (.int 2))) aNil)))) (mNot (mT (mCall 3 (m_is_number A) (aCons (mOp dIxA (mVar 0) (mC (.int 3))) (aCons (mC (.int 0)) (aCons (mC (.int 999)) aNil)))))))) (sRet (mC (.bl false))) sPass) (sRet (mCall 2 (m_is_content A) (aCons (mOp dIxA (mVar 0) (mC (.int 1))) (aCons (mOp dIxA (mVar 0) (mC (.int 4))) aNil)))))
def m_is_placing_body (A : Ads) : Fn := runF 1 (sSeq (sIf (mT (mOp (dEqA false) (mOp dIxA (mVar 0) (mC (.int 0))) (mC (.str ("drop" : Str))))) (sRet (vAnd (mOp (dEqA false) (mBlt fLenA (aCons (mVar 0) aNil)) (mC (.int 2))) (mCall 1 (m_is_place_name A) (aCons (mOp dIxA (mVar 0) (mC (.int 1))) aNil)))) sPass) (sRet (vAnd (mOp (dEqA false) (mBlt fLenA (aCons (mVar 0) aNil)) (mC (.int 4))) (vAnd (mCall 1 (m_is_place_name A) (aCons (mOp dIxA (mVar 0) (mC (.int 1))) aNil)) (vAnd (mCall 1 (m_is_place_name A) (aCons (mOp dIxA (mVar 0) (mC (.int 2))) aNil)) (mCall 3 (m_is_number A) (aCons (mOp dIxA (mVar 0) (mC (.int 3))) (aCons (mC (.int 0)) (aCons (mC (.int 999)) aNil)))))))))
def m_is_content_body (A : Ads) : Fn := runF 2 (sSeq (sIf (mOr (mT (mOp (dEqA true) (mBlt fLenA (aCons (mVar 0) aNil)) (mC (.int 3)))) (mNot (mT (mCall 1 (m_is_place_name A) (aCons (mOp dIxA (mVar 0) (mC (.int 1))) aNil))))) (sRet (mC (.bl false))) sPass) (sSeq (sAsg (gN 1) (mOp dIxA (mDct [Sum.inr ("wish" : Str), Sum.inr ("point" : Str), Sum.inr ("set" : Str)] (aCons (mC (.str ("let" : Str))) (aCons (mC (.str ("use" : Str))) (aCons (mC (.str ("number" : Str))) aNil)))) (mOp dIxA (mVar 0) (mC (.int 0))))) (sRet (mCall 2 (m_is_content A) (aCons (mVar 1) (aCons (mOp dIxA (mVar 0) (mC (.int 2))) aNil))))))
def m_is_body (A : Ads) : Fn := runF 1 (sSeq (sIf (mOr (mNot (mT (mIsiA "tuple" (mVar 0)))) (mOr (mT (mOp dLt (mBlt fLenA (aCons (mVar 0) aNil)) (mC (.int 2)))) (mNot (mT (mIsiA "str" (mOp dIxA (mVar 0) (mC (.int 0)))))))) (sRet (mC (.bl false))) sPass) (sSeq (sIf (mT (mOp (dEqA false) (mOp dIxA (mVar 0) (mC (.int 0))) (mC (.str ("make" : Str))))) (sRet (mCall 1 (m_is_make A) (aCons (mVar 0) aNil))) sPass) (sSeq (sIf (mT (mOp (dInA false) (mOp dIxA (mVar 0) (mC (.int 0))) (mTup (aCons (mC (.str ("move" : Str))) (aCons (mC (.str ("drop" : Str))) aNil))))) (sRet (mCall 1 (m_is_placing_body A) (aCons (mVar 0) aNil))) sPass) (sSeq (sIf (mT (mOp (dInA false) (mOp dIxA (mVar 0) (mC (.int 0))) (mTup (aCons (mC (.str ("wish" : Str))) (aCons (mC (.str ("point" : Str))) (aCons (mC (.str ("set" : Str))) aNil)))))) (sRet (mCall 1 (m_is_content_body A) (aCons (mVar 0) aNil))) sPass) (sRet (vAnd (mOp (dInA false) (mOp dIxA (mVar 0) (mC (.int 0))) (mC (.tup [.str ("undo" : Str), .str ("redo" : Str)]))) (vAnd (mOp (dEqA false) (mBlt fLenA (aCons (mVar 0) aNil)) (mC (.int 2))) (mCall 1 (m_is_stamp A) (aCons (mOp dIxA (mVar 0) (mC (.int 1))) aNil)))))))))
def m_is_seen (A : Ads) : Fn := runF 3 (sRet (vAnd (mCall 2 (m_is_tuple_of A) (aCons (mVar 0) (aCons (mOp (dAdd true) (mC (.int 3)) (mC (.int 1))) aNil))) (mBlt (fBls (fun l => l.all id)) (aCons (mLc true [2] (iAny (mVar 0)) (gN 2) bYes (mCall 3 (m_is_number A) (aCons (mVar 2) (aCons (mC (.int 0)) (aCons (mOp dSub (mOp dIxA (mVar 1) (mC (.int 0))) (mC (.int 1))) aNil))))) aNil))))
def m_is_deed (A : Ads) : Fn := runF 1 (sSeq (sIf (mOr (mNot (mT (mCall 2 (m_is_tuple_of A) (aCons (mVar 0) (aCons (mC (.int 3)) aNil))))) (mNot (mT (mCall 1 (m_is_stamp A) (aCons (mOp dIxA (mVar 0) (mC (.int 0))) aNil))))) (sRet (mC (.bl false))) sPass) (sRet (vAnd (mCall 2 (m_is_seen A) (aCons (mOp dIxA (mVar 0) (mC (.int 1))) (aCons (mOp dIxA (mVar 0) (mC (.int 0))) aNil))) (mCall 1 (m_is_body A) (aCons (mOp dIxA (mVar 0) (mC (.int 2))) aNil)))))
def m_does_hold (A : Ads) : Fn := runF 1 (sRet (vAnd (mIsiA "str" (mVar 0)) (mOp (dInA false) (mVar 0) (mC (.tup [.str ("block" : Str), .str ("let" : Str), .str ("sum" : Str), .str ("product" : Str)])))))
def m__law_a_name (A : Ads) : Fn := runF 2 (sSeq (sIf (mOr (mNot (mT (mIsiA "str" (mVar 0)))) (mNot (mT (mCh dLe dLe (mC (.int 1)) (mBlt fLenA (aCons (mVar 0) aNil)) (mC (.int 4)))))) (sRet (mC (.bl false))) sPass) (sRet (mOp (dEqA false) (mLc true [1] (iAny (mVar 0)) (gN 1) (mT (mOp (dInA true) (mVar 1) (mC (.str ("abcdefghijklmnopqrstuvwxyz" : Str))))) (mVar 1)) (mLst true aNil))))
def m__law_whole (A : Ads) : Fn := runF 3 (sRet (vAnd (mIsiA "int" (mVar 0)) (vAnd (vNot (mIsiA "bool" (mVar 0))) (mCh dLe dLe (mVar 1) (mVar 0) (mVar 2)))))
def m__law_a_stamp (A : Ads) : Fn := runF 1 (sSeq (sIf (mOr (mNot (mT (mIsiA "tuple" (mVar 0)))) (mT (mOp (dEqA true) (mBlt fLenA (aCons (mVar 0) aNil)) (mC (.int 2))))) (sRet (mC (.bl false))) sPass) (sRet (vAnd (mCall 3 (m__law_whole A) (aCons (mOp dIxA (mVar 0) (mC (.int 0))) (aCons (mC (.int 1)) (aCons (mC (.int 999)) aNil)))) (mCall 3 (m__law_whole A) (aCons (mOp dIxA (mVar 0) (mC (.int 1))) (aCons (mC (.int 0)) (aCons (mC (.int 3)) aNil)))))))
def m__law_a_place (A : Ads) : Fn := runF 1 (sSeq (sIf (mT (mCall 1 (m__law_a_stamp A) (aCons (mVar 0) aNil))) (sRet (mC (.bl true))) sPass) (sSeq (sIf (mOr (mNot (mT (mIsiA "tuple" (mVar 0)))) (mT (mOp (dEqA true) (mBlt fLenA (aCons (mVar 0) aNil)) (mC (.int 2))))) (sRet (mC (.bl false))) sPass) (sRet (vAnd (mCall 3 (m__law_whole A) (aCons (mOp dIxA (mVar 0) (mC (.int 0))) (aCons (mC (.int 0)) (aCons (mC (.int 0)) aNil)))) (mCall 3 (m__law_whole A) (aCons (mOp dIxA (mVar 0) (mC (.int 1))) (aCons (mC (.int 0)) (aCons (mC (.int 0)) aNil))))))))
def m__law_a_content (A : Ads) : Fn := runF 2 (sSeq (sIf (mT (mOp (dEqA false) (mVar 0) (mC (.str ("let" : Str))))) (sRet (mCall 1 (m__law_a_name A) (aCons (mVar 1) aNil))) sPass) (sSeq (sIf (mT (mOp (dEqA false) (mVar 0) (mC (.str ("use" : Str))))) (sRet (vOr (mOp (dIs false) (mVar 1) (mC .non)) (mCall 1 (m__law_a_place A) (aCons (mVar 1) aNil)))) sPass) (sSeq (sIf (mT (mOp (dEqA false) (mVar 0) (mC (.str ("number" : Str))))) (sRet (mCall 3 (m__law_whole A) (aCons (mVar 1) (aCons (mC (.int 0)) (aCons (mC (.int 99)) aNil))))) sPass) (sRet (vAnd (mOp (dInA false) (mVar 0) (mLst true (aCons (mC (.str ("block" : Str))) (aCons (mC (.str ("sum" : Str))) (aCons (mC (.str ("product" : Str))) aNil))))) (mOp (dIs false) (mVar 1) (mC .non)))))))
def m__law_a_body (A : Ads) : Fn := runF 4 (sSeq (sIf (mOr (mNot (mT (mIsiA "tuple" (mVar 0)))) (mOr (mT (mOp (dEqA false) (mVar 0) (mTup aNil))) (mNot (mT (mIsiA "str" (mOp dIxA (mVar 0) (mC (.int 0)))))))) (sRet (mC (.bl false))) sPass) (sSeq (sPar 1 2 (aCons (mOp dIxA (mVar 0) (mC (.int 0))) (aCons (mBlt fLenA (aCons (mVar 0) aNil)) aNil))) (sSeq (sIf (mT (mOp (dEqA false) (mVar 1) (mC (.str ("make" : Str))))) (sSeq (sIf (mOr (mT (mOp (dEqA true) (mVar 2) (mC (.int 5)))) (mOr (mNot (mT (mIsiA "str" (mOp dIxA (mVar 0) (mC (.int 1)))))) (mNot (mT (mCall 1 (m__law_a_place A) (aCons (mOp dIxA (mVar 0) (mC (.int 2))) aNil)))))) (sRet (mC (.bl false))) sPass) (sRet (vAnd (mCall 3 (m__law_whole A) (aCons (mOp dIxA (mVar 0) (mC (.int 3))) (aCons (mC (.int 0)) (aCons (mC (.int 999)) aNil)))) (mCall 2 (m__law_a_content A) (aCons (mOp dIxA (mVar 0) (mC (.int 1))) (aCons (mOp dIxA (mVar 0) (mC (.int 4))) aNil)))))) sPass) (sSeq (sIf (mT (mOp (dEqA false) (mVar 1) (mC (.str ("move" : Str))))) (sRet (vAnd (mOp (dEqA false) (mVar 2) (mC (.int 4))) (vAnd (mCall 1 (m__law_a_place A) (aCons (mOp dIxA (mVar 0) (mC (.int 1))) aNil)) (vAnd (mCall 1 (m__law_a_place A) (aCons (mOp dIxA (mVar 0) (mC (.int 2))) aNil)) (mCall 3 (m__law_whole A) (aCons (mOp dIxA (mVar 0) (mC (.int 3))) (aCons (mC (.int 0)) (aCons (mC (.int 999)) aNil)))))))) sPass) (sSeq (sIf (mT (mOp (dEqA false) (mVar 1) (mC (.str ("drop" : Str))))) (sRet (vAnd (mOp (dEqA false) (mVar 2) (mC (.int 2))) (mCall 1 (m__law_a_place A) (aCons (mOp dIxA (mVar 0) (mC (.int 1))) aNil)))) sPass) (sSeq (sIf (mT (mOp (dInA false) (mVar 1) (mLst true (aCons (mC (.str ("wish" : Str))) (aCons (mC (.str ("point" : Str))) (aCons (mC (.str ("set" : Str))) aNil)))))) (sSeq (sAsg (gN 3) (mOp dIxA (mDct [Sum.inr ("wish" : Str), Sum.inr ("point" : Str), Sum.inr ("set" : Str)] (aCons (mC (.str ("let" : Str))) (aCons (mC (.str ("use" : Str))) (aCons (mC (.str ("number" : Str))) aNil)))) (mVar 1))) (sRet (vAnd (mOp (dEqA false) (mVar 2) (mC (.int 3))) (vAnd (mCall 1 (m__law_a_place A) (aCons (mOp dIxA (mVar 0) (mC (.int 1))) aNil)) (mCall 2 (m__law_a_content A) (aCons (mVar 3) (aCons (mOp dIxA (mVar 0) (mC (.int 2))) aNil))))))) sPass) (sRet (vAnd (mOp (dInA false) (mVar 1) (mLst true (aCons (mC (.str ("undo" : Str))) (aCons (mC (.str ("redo" : Str))) aNil)))) (vAnd (mOp (dEqA false) (mVar 2) (mC (.int 2))) (mCall 1 (m__law_a_stamp A) (aCons (mOp dIxA (mVar 0) (mC (.int 1))) aNil)))))))))))
def m__law_a_deed (A : Ads) : Fn := runF 2 (sSeq (sIf (mOr (mNot (mT (mIsiA "tuple" (mVar 0)))) (mOr (mT (mOp (dEqA true) (mBlt fLenA (aCons (mVar 0) aNil)) (mC (.int 3)))) (mNot (mT (mCall 1 (m__law_a_stamp A) (aCons (mOp dIxA (mVar 0) (mC (.int 0))) aNil)))))) (sRet (mC (.bl false))) sPass) (sSeq (sIf (mOr (mNot (mT (mIsiA "tuple" (mOp dIxA (mVar 0) (mC (.int 1)))))) (mT (mOp (dEqA true) (mBlt fLenA (aCons (mOp dIxA (mVar 0) (mC (.int 1))) aNil)) (mC (.int 4))))) (sRet (mC (.bl false))) sPass) (sSeq (sIf (mT (mOp (dEqA true) (mLc true [1] (iAny (mOp dIxA (mVar 0) (mC (.int 1)))) (gN 1) (mNot (mT (mCall 3 (m__law_whole A) (aCons (mVar 1) (aCons (mC (.int 0)) (aCons (mOp dSub (mOp dIxA (mOp dIxA (mVar 0) (mC (.int 0))) (mC (.int 0))) (mC (.int 1))) aNil)))))) (mVar 1)) (mLst true aNil))) (sRet (mC (.bl false))) sPass) (sRet (mCall 1 (m__law_a_body A) (aCons (mOp dIxA (mVar 0) (mC (.int 2))) aNil))))))
def m__law_value_right (A : Ads) : Fn := runF 4 (sSeq (sAsg (gN 1) (mLst true (aCons (mCall 1 (m_is_name A) (aCons (mVar 0) aNil)) (aCons (mCall 1 (m_is_stamp A) (aCons (mVar 0) aNil)) (aCons (mCall 1 (m_is_body A) (aCons (mVar 0) aNil)) (aCons (mCall 1 (m_is_deed A) (aCons (mVar 0) aNil)) (aCons (mCall 1 (m_does_hold A) (aCons (mVar 0) aNil)) aNil))))))) (sSeq (sAsg (gN 2) (mLst true (aCons (mCall 1 (m__law_a_name A) (aCons (mVar 0) aNil)) (aCons (mCall 1 (m__law_a_stamp A) (aCons (mVar 0) aNil)) (aCons (mCall 1 (m__law_a_body A) (aCons (mVar 0) aNil)) (aCons (mCall 1 (m__law_a_deed A) (aCons (mVar 0) aNil)) aNil)))))) (sSeq (sAsg (gN 3) (vAnd (mIsiA "str" (mVar 0)) (mOp (dInA false) (mVar 0) (mLst true (aCons (mC (.str ("block" : Str))) (aCons (mC (.str ("let" : Str))) (aCons (mC (.str ("sum" : Str))) (aCons (mC (.str ("product" : Str))) aNil)))))))) (sRet (mOp (dEqA false) (mBlt fRepr (aCons (mVar 1) aNil)) (mBlt fRepr (aCons (mOp (dAdd true) (mVar 2) (mLst true (aCons (mVar 3) aNil))) aNil)))))))
def B__law_caught (A : Ads) (act : Ed) : Sd := (sSeq (sTry (sDrop act) ((mt_TooMany A, some 1, fun fs => sPass) :: ((mt_NoBook A, some 1, fun fs => sPass) :: ((mt_NotClosed A, some 1, fun fs => sPass) :: ((mt_Unseen A, some 1, fun fs => sPass) :: ((mt_NoDeed A, some 1, fun fs => (sRet (mLst true (aCons (mC (.str ("deed" : Str))) (aCons (mBlt fRepr (aCons (mLook fs ("told" : Str)) aNil)) aNil))))) :: ((mt_NoBody A, some 1, fun fs => sPass) :: ((mt_NoStamp A, some 1, fun fs => sPass) :: ((mt_NoStamps A, some 1, fun fs => sPass) :: ((mt_NoHand A, some 1, fun fs => (sRet (mLst true (aCons (mC (.str ("hand" : Str))) (aCons (mBlt fRepr (aCons (mLook fs ("told" : Str)) aNil)) aNil))))) :: ((mt_NoHands A, some 1, fun fs => sPass) :: ((mt_NoMenu A, some 1, fun fs => sPass) :: ((mt_NoPacket A, some 1, fun fs => sPass) :: ((mt_NothingBack A, some 1, fun fs => sPass) :: ((mt_NoBranches A, some 1, fun fs => sPass) :: []))))))))))))))) (sRet (mC .non)))
def m_check_deed (A : Ads) : Fn := runF 1 (sIf (mNot (mT (mCall 1 (m_is_deed A) (aCons (mVar 0) aNil)))) (sRaise A.C_NoDeed ("told" : Str) (mVar 0)) sPass)
def m_is_mark (A : Ads) : Fn := runF 1 (sSeq (sDrop (mCall 1 (m_check_deed A) (aCons (mVar 0) aNil))) (sRet (mOp (dInA false) (mOp dIxA (mOp dIxA (mVar 0) (mC (.int 2))) (mC (.int 0))) (mC (.tup [.str ("undo" : Str), .str ("redo" : Str)])))))
def m_in_stamp_order (A : Ads) : Fn := runF 4 (sSeq (sAsg (gN 1) (mDc [2, 3] (iAny (mVar 0)) (gT [2, 3]) bYes (mTup (aCons (mBlt fInt (aCons (mVar 2) aNil)) (aCons (mBlt fInt (aCons (mVar 3) aNil)) aNil))) (mC (.bl true)))) (sRet (mBlt fSorted (aCons (mVar 1) aNil))))
def m_names_in (A : Ads) : Fn := runF 1 (sSeq (sIf (mT (mOp (dEqA false) (mOp dIxA (mVar 0) (mC (.int 0))) (mC (.str ("make" : Str))))) (sRet (mLst true (aCons (mOp dIxA (mVar 0) (mC (.int 2))) (aCons (mIf (mT (mOp (dEqA false) (mOp dIxA (mVar 0) (mC (.int 1))) (mC (.str ("use" : Str))))) (mOp dIxA (mVar 0) (mC (.int 4))) (mC .non)) aNil)))) sPass) (sSeq (sIf (mT (mOp (dEqA false) (mOp dIxA (mVar 0) (mC (.int 0))) (mC (.str ("move" : Str))))) (sRet (mLst true (aCons (mOp dIxA (mVar 0) (mC (.int 1))) (aCons (mOp dIxA (mVar 0) (mC (.int 2))) aNil)))) sPass) (sRet (mLst true (aCons (mOp dIxA (mVar 0) (mC (.int 1))) (aCons (mIf (mT (mOp (dEqA false) (mOp dIxA (mVar 0) (mC (.int 0))) (mC (.str ("point" : Str))))) (mOp dIxA (mVar 0) (mC (.int 2))) (mC .non)) aNil))))))
def m_named_by (A : Ads) : Fn := runF 2 (sSeq (sDrop (mCall 1 (m_check_deed A) (aCons (mVar 0) aNil))) (sRet (mCall 1 (m_in_stamp_order A) (aCons (mLc true [1] (iAny (mCall 1 (m_names_in A) (aCons (mOp dIxA (mVar 0) (mC (.int 2))) aNil))) (gN 1) (mAnd (mT (mOp (dIs true) (mVar 1) (mC .non))) (mT (mOp (dEqA true) (mVar 1) (mC (.tup [.int 0, .int 0]))))) (mVar 1)) aNil))))
def m__law_stamps (A : Ads) : Fn := runF 2 (sRet (mBlt fSorted (aCons (mBlt fDictP (aCons (mLc true [1] (iAny (mVar 0)) (gN 1) bYes (mTup (aCons (mTup (aCons (mBlt fInt (aCons (mOp dIxA (mVar 1) (mC (.int 0))) aNil)) (aCons (mBlt fInt (aCons (mOp dIxA (mVar 1) (mC (.int 1))) aNil)) aNil))) (aCons (mC (.int 1)) aNil)))) aNil)) aNil)))
def m__law_names (A : Ads) : Fn := runF 4 (sSeq (sAsg (gN 1) (mOp dIxA (mVar 0) (mC (.int 2)))) (sSeq (sAsg (gN 2) (mIf (mT (mOp (dEqA true) (mOp dIxA (mVar 1) (mC (.int 0))) (mC (.str ("make" : Str))))) (mLst true (aCons (mOp dIxA (mVar 1) (mC (.int 1))) aNil)) (mLst true (aCons (mOp dIxA (mVar 1) (mC (.int 2))) (aCons (mIf (mT (mOp (dEqA false) (mOp dIxA (mVar 1) (mC (.int 1))) (mC (.str ("use" : Str))))) (mOp dIxA (mVar 1) (mC (.int 4))) (mC .non)) aNil))))) (sSeq (sIf (mT (mOp (dInA false) (mOp dIxA (mVar 1) (mC (.int 0))) (mLst true (aCons (mC (.str ("move" : Str))) (aCons (mC (.str ("point" : Str))) aNil))))) (sAsg (gN 2) (mLst true (aCons (mOp dIxA (mVar 1) (mC (.int 1))) (aCons (mOp dIxA (mVar 1) (mC (.int 2))) aNil)))) sPass) (sRet (mCall 1 (m__law_stamps A) (aCons (mLc true [3] (iAny (mVar 2)) (gN 3) (mAnd (mT (mOp (dIs true) (mVar 3) (mC .non))) (mT (mOp (dEqA true) (mVar 3) (mTup (aCons (mC (.int 0)) (aCons (mC (.int 0)) aNil)))))) (mVar 3)) aNil))))))
def m_check_hand (A : Ads) : Fn := runF 1 (sIf (mNot (mT (mCall 3 (m_is_number A) (aCons (mVar 0) (aCons (mC (.int 0)) (aCons (mC (.int 3)) aNil)))))) (sRaise A.C_NoHand ("told" : Str) (mVar 0)) sPass)
def m_time_seen (A : Ads) : Fn := runF 2 (sSeq (sDrop (mCall 1 (m_check_deed A) (aCons (mVar 0) aNil))) (sSeq (sDrop (mCall 1 (m_check_hand A) (aCons (mVar 1) aNil))) (sRet (mOp dIxA (mOp dIxA (mVar 0) (mC (.int 1))) (mVar 1)))))
def m__law_deed_right (A : Ads) : Fn := runF 4 (sSeq (sIf (mOr (mT (mOp (dEqA true) (mCall 1 (m_is_mark A) (aCons (mVar 1) aNil)) (mOp (dInA false) (mOp dIxA (mOp dIxA (mVar 1) (mC (.int 2))) (mC (.int 0))) (mLst true (aCons (mC (.str ("undo" : Str))) (aCons (mC (.str ("redo" : Str))) aNil)))))) (mT (mOp (dEqA true) (mCall 1 (m_named_by A) (aCons (mVar 1) aNil)) (mCall 1 (m__law_names A) (aCons (mVar 1) aNil))))) (sRet (mC (.bl false))) sPass) (sSeq (sIf (mT (mOp (dEqA true) (mLc true [3] (iRg rng1 (aCons (mC (.int 4)) aNil)) (gN 3) bYes (mCall 2 (m_time_seen A) (aCons (mVar 1) (aCons (mVar 3) aNil)))) (mBlt (fList true) (aCons (mOp dIxA (mVar 1) (mC (.int 1))) aNil)))) (sRet (mC (.bl false))) sPass) (sSeq (sAsg (gN 2) (mCall 2 (m__law_one A) (aCons (mVar 0) (aCons (mLst true (aCons (mUn dNeg (mC (.int 1))) (aCons (mC (.int 4)) (aCons (mC .non) (aCons (mC (.bl true)) (aCons (mC (.str ("0" : Str))) aNil)))))) aNil)))) (sRet (mOp (dEqA false) (callL 2 (B__law_caught A) (mCall 2 (m_time_seen A) (aCons (mVar 1) (aCons (mVar 2) aNil)))) (mLst true (aCons (mC (.str ("hand" : Str))) (aCons (mBlt fRepr (aCons (mVar 2) aNil)) aNil))))))))
def B_law_1 (A : Ads) : Sd := (sSeq (sIf (mNot (mT (mCall 1 (m__law_value_right A) (aCons (mVar 5) aNil)))) (sRet (mC (.bl false))) sPass) (sIf (mNot (mT (mCall 1 (m__law_a_deed A) (aCons (mVar 5) aNil)))) (sSeq (sIf (mT (mOp (dEqA true) (callL 2 (B__law_caught A) (mCall 1 (m_is_mark A) (aCons (mVar 5) aNil))) (mLst true (aCons (mC (.str ("deed" : Str))) (aCons (mBlt fRepr (aCons (mVar 5) aNil)) aNil))))) (sRet (mC (.bl false))) sPass) (sIf (mT (mOp (dEqA true) (callL 2 (B__law_caught A) (mCall 2 (m_time_seen A) (aCons (mVar 5) (aCons (mC .non) aNil)))) (mLst true (aCons (mC (.str ("deed" : Str))) (aCons (mBlt fRepr (aCons (mVar 5) aNil)) aNil))))) (sRet (mC (.bl false))) sPass)) sPass))
def B_law_2 (A : Ads) : Sd := (sSeq (sIf (mOr (mNot (mT (mCall 1 (m__law_value_right A) (aCons (mVar 3) aNil)))) (mOr (mNot (mT (mCall 1 (m__law_value_right A) (aCons (mOp dIxA (mVar 3) (mC (.int 2))) aNil)))) (mNot (mT (mCall 2 (m__law_deed_right A) (aCons (mVar 2) (aCons (mVar 3) aNil))))))) (sRet (mC (.bl false))) sPass) (sSeq (sAsg (gN 4) (mLst false (aCons (mCall 2 (m__law_bent A) (aCons (mVar 2) (aCons (mVar 3) aNil))) (aCons (mCall 2 (m__law_bent A) (aCons (mVar 2) (aCons (mOp dIxA (mVar 3) (mC (.int 2))) aNil))) aNil)))) (sSeq (sDrop (mAppend (mVar 4) (mTup (aCons (mOp dIxA (mVar 3) (mC (.int 0))) (aCons (mOp dIxA (mVar 3) (mC (.int 1))) (aCons (mCall 2 (m__law_bent A) (aCons (mVar 2) (aCons (mOp dIxA (mVar 3) (mC (.int 2))) aNil))) aNil)))))) (sFor (iAny (mOp (dAdd true) (mVar 4) (mLst true (aCons (mTup (aCons (mOp dIxA (mVar 3) (mC (.int 0))) (aCons (mCall 2 (m__law_bent A) (aCons (mVar 2) (aCons (mOp dIxA (mVar 3) (mC (.int 1))) aNil))) (aCons (mOp dIxA (mVar 3) (mC (.int 2))) aNil)))) (aCons (mBlt (fList true) (aCons (mVar 3) aNil)) (aCons (mCall 1 (m__law_odd A) (aCons (mVar 2) aNil)) aNil)))))) (gN 5) (B_law_1 A)))))
def B_law_3 (A : Ads) : Sd := (sSeq (sAsg (gN 2) (mCall 2 (m__law_pool A) (aCons (mVar 0) (aCons (mVar 1) aNil)))) (sFor (iAny (mOp dIxA (mCall 3 (m__law_drawn A) (aCons (mVar 2) (aCons (mC (.int 8)) (aCons (mC (.int 3)) aNil)))) (mC (.int 0)))) (gN 3) (B_law_2 A)))
def m_law (A : Ads) : Fn := runF 6 (sSeq (sFor (iAny (mCall 1 (m__law_rounds A) (aCons (mVar 0) aNil))) (gN 1) (B_law_3 A)) (sRet (mC (.bl true))))
section
variable {P : Program} {wd : World} {K : PySem.W.Frag} {mg : Str → Option Value} {base : Heap} {A : Ads}
theorem ok_NoDeed___init__ (T : TX P wd K mg A) : FnOk P wd K mg base (L2.CX P wd) 1 A.f_NoDeed___init__ A.d_NoDeed___init__ ["self", "told"] (spSup K A.C_NoDeed "told") := T.E_NoDeed base
theorem ok_NoHand___init__ (T : TX P wd K mg A) : FnOk P wd K mg base (L2.CX P wd) 1 A.f_NoHand___init__ A.d_NoHand___init__ ["self", "told"] (spSup K A.C_NoHand "told") := T.E_NoHand base
theorem ok__law_rounds (T : TX P wd K mg A) : FnOk P wd K mg base (L2.CX P wd) 1 A.f__law_rounds A.d__law_rounds ["script"] (SpF ⟨K, wd⟩ 1 (m__law_rounds A)) :=
  fn_ok T.F__law_rounds sc__law_rounds (fun cdv Ar outer s H E B kp hr tk => (tss_one (ts_ret (tr_listRg true T.b_list (rg_one T.b_range (tr_maxA T.b_max (ta_cons tr_int (ta_cons (tr_minA T.b_min (ta_cons (tr_lenA T.b_len (ta_cons (tr_var 0) ta_nil)) (ta_cons tr_int ta_nil))) ta_nil))))))))
theorem ok__law_pool (T : TX P wd K mg A) : FnOk P wd K mg base (L2.CX P wd) 1 A.f__law_pool A.d__law_pool ["script", "k"] (SpF ⟨K, wd⟩ 2 (m__law_pool A)) :=
  fn_ok T.F__law_pool sc__law_pool (fun cdv Ar outer s H E B kp hr tk => (tss_cons (ts_set 2 sc__law_pool.nd (kp 2) tr_int) (tss_cons (ts_if (tb_lt (tr_var 1) (tr_lenA T.b_len (ta_cons (tr_var 0) ta_nil))) (tss_one (ts_set 2 sc__law_pool.nd (kp 2) (tr_ixA hr (tr_var 0) (tr_var 1)))) tss_nil) (tss_cons (ts_set 3 sc__law_pool.nd (kp 3) (tr_maxA T.b_max (ta_cons (tr_intc T.b_int (ta_cons (tr_var 2) ta_nil)) (ta_cons (tr_intc T.b_int (ta_cons (tr_sub (tr_neg tr_int) (tr_var 2)) ta_nil)) ta_nil)))) (tss_cons (ts_set 4 sc__law_pool.nd (kp 4) (tr_mod (tr_intc T.b_int (ta_cons (tr_mul (tr_add true (tr_add true (tr_add true (tr_mod (tr_intc T.b_int (ta_cons (tr_var 3) ta_nil)) tr_int) (tr_mul (tr_mul tr_int (tr_var 1)) (tr_var 1))) (tr_mul tr_int (tr_var 1))) tr_int) tr_int) ta_nil)) tr_int)) (tss_one (ts_ret (tr_lst false (ta_cons (tr_mul (tr_var 3) (tr_intc T.b_int (ta_cons (tr_ge (tr_var 3) (tr_pow tr_int tr_int)) ta_nil))) (ta_cons (tr_var 4) ta_nil))))))))))
theorem ok__law_world (T : TX P wd K mg A) : FnOk P wd K mg base (L2.CX P wd) 1 A.f__law_world A.d__law_world ["many"] (SpF ⟨K, wd⟩ 1 (m__law_world A)) :=
  fn_ok T.F__law_world sc__law_world (fun cdv Ar outer s H E B kp hr tk => (tss_one (ts_ret (tr_lst true (ta_cons (tr_lst false ta_nil) (ta_cons (tr_lcV false 1 [("hand", 1)] kp rfl sc__law_world.nd (ti_rng1 T.b_range (ta_cons tr_int ta_nil)) (blk_of (N := nm__law_world) (sc := defScope s__law_world) rfl rfl (by decide +kernel)) rfl (by decide) (fun s H C cl fp => pg_name (i := 1) sc__law_world.nd rfl (Or.inl rfl)) (fun s H C cl fp => tt_nil) (fun s H C cl fp => (tr_lst true (ta_cons tr_int (ta_cons tr_int (ta_cons tr_int (ta_cons tr_int ta_nil))))))) (ta_cons (tr_var 0) ta_nil)))))))
theorem ok__law_take (T : TX P wd K mg A) : FnOk P wd K mg base (L2.CX P wd) 1 A.f__law_take A.d__law_take ["source", "top"] (SpF ⟨K, wd⟩ 2 (m__law_take A)) :=
  fn_ok T.F__law_take sc__law_take (fun cdv Ar outer s H E B kp hr tk => (tss_cons (ts_if (tb_gt (tr_ixA hr (tr_var 0) tr_int) tr_int) (tss_cons (ts_set 2 sc__law_take.nd (kp 2) (tr_mod (tr_intc T.b_int (ta_cons (tr_ixA hr (tr_var 0) tr_int) ta_nil)) (tr_var 1))) (tss_cons (ts_sub (tr_div (tr_ixA hr (tr_var 0) tr_int) (tr_var 1)) (tr_var 0) tr_int (fun _ _ _ h1 h2 h3 => ps_asg h1 (pg_sub h2 h3 set_list))) (tss_one (ts_ret (tr_var 2))))) tss_nil) (tss_cons (ts_sub (tr_mod (tr_intc T.b_int (ta_cons (tr_add true (tr_mul (tr_ixA hr (tr_var 0) tr_int) tr_int) tr_int) ta_nil)) tr_int) (tr_var 0) tr_int (fun _ _ _ h1 h2 h3 => ps_asg h1 (pg_sub h2 h3 set_list))) (tss_one (ts_ret (tr_mod (tr_intc T.b_int (ta_cons (tr_div (tr_mod (tr_intc T.b_int (ta_cons (tr_mul (tr_ixA hr (tr_var 0) tr_int) (tr_ixA hr (tr_var 0) tr_int)) ta_nil)) tr_int) tr_int) ta_nil)) (tr_var 1)))))))
theorem ok__law_one (T : TX P wd K mg A) : FnOk P wd K mg base (L2.CX P wd) 2 A.f__law_one A.d__law_one ["source", "things"] (SpF ⟨K, wd⟩ 2 (m__law_one A)) :=
  fn_ok T.F__law_one sc__law_one (fun cdv Ar outer s H E B kp hr tk => (tss_one (ts_ret (tr_ixA hr (tr_var 1) (tr_callV (ok__law_take T) (hr.mono (by omega)) T.m__law_take T.F__law_take.kp T.B__law_take tk (ta_cons (tr_var 0) (ta_cons (tr_lenA T.b_len (ta_cons (tr_var 1) ta_nil)) ta_nil)))))))
theorem ok__law_do (T : TX P wd K mg A) : FnOk P wd K mg base (L2.CX P wd) 3 A.f__law_do A.d__law_do ["source", "world", "hand", "body"] (SpF ⟨K, wd⟩ 4 (m__law_do A)) :=
  fn_ok T.F__law_do sc__law_do (fun cdv Ar outer s H E B kp hr tk => (tss_cons (ts_set 4 sc__law_do.nd (kp 4) (tr_ixA hr (tr_ixA hr (tr_var 1) tr_int) (tr_var 2))) (tss_cons (ts_set 5 sc__law_do.nd (kp 5) (tr_tup (ta_cons (tr_add true (tr_add true tr_int (tr_maxA T.b_max (ta_cons (tr_lcV true 6 [("time", 6)] kp rfl sc__law_do.nd (ti_any (tr_var 4)) (blk_of (N := nm__law_do) (sc := defScope s__law_do) rfl rfl (by decide +kernel)) rfl (by decide) (fun s H C cl fp => pg_name (i := 6) sc__law_do.nd rfl (Or.inl rfl)) (fun s H C cl fp => tt_nil) (fun s H C cl fp => (tr_intc T.b_int (ta_cons (tr_var 6) ta_nil)))) ta_nil))) (tr_callV (ok__law_one T) (hr.mono (by omega)) T.m__law_one T.F__law_one.kp T.B__law_one tk (ta_cons (tr_var 0) (ta_cons (tr_lst true (ta_cons tr_int (ta_cons tr_int (ta_cons tr_int (ta_cons tr_int (ta_cons tr_int ta_nil)))))) ta_nil)))) (ta_cons (tr_var 2) ta_nil)))) (tss_cons (ts_drop (tr_append (tr_ixA hr (tr_var 1) tr_int) (tr_tup (ta_cons (tr_var 5) (ta_cons (tr_tuplec T.b_tuple (ta_cons (tr_var 4) ta_nil)) (ta_cons (tr_var 3) ta_nil)))))) (tss_cons (ts_sub (tr_lcV true 7 [("k", 7)] kp rfl sc__law_do.nd (ti_rng1 T.b_range (ta_cons tr_int ta_nil)) (blk_of (N := nm__law_do) (sc := defScope s__law_do) rfl rfl (by decide +kernel)) rfl (by decide) (fun s H C cl fp => pg_name (i := 7) sc__law_do.nd rfl (Or.inl rfl)) (fun s H C cl fp => tt_nil) (fun s H C cl fp => (tr_if (tb_eqA hr (tr_var 7) (tr_var 2)) (tr_ixA hr (tr_var 5) tr_int) (tr_ixA hr (tr_var 4) (tr_var 7))))) (tr_ixA hr (tr_var 1) tr_int) (tr_var 2) (fun _ _ _ h1 h2 h3 => ps_asg h1 (pg_sub h2 h3 set_list))) (tss_one (ts_ret (tr_var 5))))))))
theorem ok__law_learn (T : TX P wd K mg A) : FnOk P wd K mg base (L2.CX P wd) 3 A.f__law_learn A.d__law_learn ["source", "world", "hand"] (SpF ⟨K, wd⟩ 3 (m__law_learn A)) :=
  fn_ok T.F__law_learn sc__law_learn (fun cdv Ar outer s H E B kp hr tk => (tss_cons (ts_set 3 sc__law_learn.nd (kp 3) (tr_callV (ok__law_take T) (hr.mono (by omega)) T.m__law_take T.F__law_take.kp T.B__law_take tk (ta_cons (tr_var 0) (ta_cons (tr_ixA hr (tr_var 1) tr_int) ta_nil)))) (tss_cons (ts_setLcV true 4 6 [("deed", 6)] kp rfl sc__law_learn.nd rfl rfl (by rfl) (ti_any (tr_ixA hr (tr_var 1) tr_int)) (blk_of (N := nm__law_learn) (sc := defScope s__law_learn) rfl rfl (by decide +kernel)) rfl (by decide) (fun s H C cl fp => pg_name (i := 6) sc__law_learn.nd rfl (Or.inl rfl)) (fun s H C cl fp => (tt_one (tb_eqA hr (tr_ixA hr (tr_ixA hr (tr_var 6) tr_int) tr_int) (tr_var 3)))) (fun s H C cl fp => (tr_var 6))) (tss_cons (ts_set 5 sc__law_learn.nd (kp 5) (tr_listc false T.b_list (ta_cons (tr_ixA hr (tr_ixA hr (tr_var 1) tr_int) (tr_var 3)) ta_nil))) (tss_cons (ts_if (tb_w (tw_and (tb_neA hr (tr_var 4) (tr_lst true ta_nil)) (tw_and1 (tb_eqA hr (tr_callV (ok__law_take T) (hr.mono (by omega)) T.m__law_take T.F__law_take.kp T.B__law_take tk (ta_cons (tr_var 0) (ta_cons tr_int ta_nil))) tr_int)))) (tss_cons (ts_set 6 sc__law_learn.nd (kp 6) (tr_callV (ok__law_one T) (hr.mono (by omega)) T.m__law_one T.F__law_one.kp T.B__law_one tk (ta_cons (tr_var 0) (ta_cons (tr_var 4) ta_nil)))) (tss_cons (ts_set 5 sc__law_learn.nd (kp 5) (tr_listc false T.b_list (ta_cons (tr_ixA hr (tr_var 6) tr_int) ta_nil))) (tss_one (ts_sub (tr_ixA hr (tr_ixA hr (tr_var 6) tr_int) tr_int) (tr_var 5) (tr_var 3) (fun _ _ _ h1 h2 h3 => ps_asg h1 (pg_sub h2 h3 set_list)))))) tss_nil) (tss_one (ts_sub (tr_lcV true 7 [("k", 7)] kp rfl sc__law_learn.nd (ti_rng1 T.b_range (ta_cons tr_int ta_nil)) (blk_of (N := nm__law_learn) (sc := defScope s__law_learn) rfl rfl (by decide +kernel)) rfl (by decide) (fun s H C cl fp => pg_name (i := 7) sc__law_learn.nd rfl (Or.inl rfl)) (fun s H C cl fp => tt_nil) (fun s H C cl fp => (tr_maxA T.b_max (ta_cons (tr_intc T.b_int (ta_cons (tr_ixA hr (tr_var 5) (tr_var 7)) ta_nil)) (ta_cons (tr_intc T.b_int (ta_cons (tr_ixA hr (tr_ixA hr (tr_ixA hr (tr_var 1) tr_int) (tr_var 2)) (tr_var 7)) ta_nil)) ta_nil))))) (tr_ixA hr (tr_var 1) tr_int) (tr_var 2) (fun _ _ _ h1 h2 h3 => ps_asg h1 (pg_sub h2 h3 set_list)))))))))
theorem ok__law_content (T : TX P wd K mg A) : FnOk P wd K mg base (L2.CX P wd) 3 A.f__law_content A.d__law_content ["source", "kind", "some"] (SpF ⟨K, wd⟩ 3 (m__law_content A)) :=
  fn_ok T.F__law_content sc__law_content (fun cdv Ar outer s H E B kp hr tk => (tss_cons (ts_if (tb_eqA hr (tr_var 1) tr_str) (tss_one (ts_ret (tr_callV (ok__law_one T) (hr.mono (by omega)) T.m__law_one T.F__law_one.kp T.B__law_one tk (ta_cons (tr_var 0) (ta_cons (tr_lst true (ta_cons tr_str (ta_cons tr_str (ta_cons tr_str (ta_cons tr_str ta_nil))))) ta_nil))))) tss_nil) (tss_cons (ts_if (tb_eqA hr (tr_var 1) tr_str) (tss_one (ts_ret (tr_callV (ok__law_one T) (hr.mono (by omega)) T.m__law_one T.F__law_one.kp T.B__law_one tk (ta_cons (tr_var 0) (ta_cons (tr_lst true (ta_cons tr_int (ta_cons tr_int (ta_cons tr_int (ta_cons tr_int (ta_cons tr_int ta_nil)))))) ta_nil))))) tss_nil) (tss_cons (ts_if (tb_eqA hr (tr_var 1) tr_str) (tss_cons (ts_setLcV true 3 5 [("deed", 5)] kp rfl sc__law_content.nd rfl rfl (by rfl) (ti_any (tr_var 2)) (blk_of (N := nm__law_content) (sc := defScope s__law_content) rfl rfl (by decide +kernel)) rfl (by decide) (fun s H C cl fp => pg_name (i := 5) sc__law_content.nd rfl (Or.inl rfl)) (fun s H C cl fp => (tt_one (tb_eqA hr (tr_sl true (tr_ixA hr (tr_var 5) tr_int) to_no (to_so tr_int)) (tr_tup (ta_cons tr_str (ta_cons tr_str ta_nil)))))) (fun s H C cl fp => (tr_ixA hr (tr_var 5) tr_int))) (tss_cons (ts_set 4 sc__law_content.nd (kp 4) (tr_add true (tr_lst true (ta_cons tr_non (ta_cons (tr_tup (ta_cons tr_int (ta_cons tr_int ta_nil))) ta_nil))) (tr_sl true (tr_lcV true 5 [("deed", 5)] kp rfl sc__law_content.nd (ti_any (tr_var 2)) (blk_of (N := nm__law_content) (sc := defScope s__law_content) rfl rfl (by decide +kernel)) rfl (by decide) (fun s H C cl fp => pg_name (i := 5) sc__law_content.nd rfl (Or.inl rfl)) (fun s H C cl fp => tt_nil) (fun s H C cl fp => (tr_ixA hr (tr_var 5) tr_int))) to_no (to_so tr_int)))) (tss_one (ts_ret (tr_callV (ok__law_one T) (hr.mono (by omega)) T.m__law_one T.F__law_one.kp T.B__law_one tk (ta_cons (tr_var 0) (ta_cons (tr_add true (tr_add true (tr_add true (tr_var 3) (tr_var 3)) (tr_var 3)) (tr_var 4)) ta_nil))))))) tss_nil) (tss_one (ts_ret tr_non))))))
theorem ok__law_holders (T : TX P wd K mg A) : FnOk P wd K mg base (L2.CX P wd) 1 A.f__law_holders A.d__law_holders ["some"] (SpF ⟨K, wd⟩ 1 (m__law_holders A)) :=
  fn_ok T.F__law_holders sc__law_holders (fun cdv Ar outer s H E B kp hr tk => (tss_cons (ts_set 1 sc__law_holders.nd (kp 1) (tr_lst true (ta_cons tr_str (ta_cons tr_str (ta_cons tr_str (ta_cons tr_str ta_nil)))))) (tss_one (ts_ret (tr_add true (tr_lst true (ta_cons (tr_tup (ta_cons tr_int (ta_cons tr_int ta_nil))) ta_nil)) (tr_lcV true 2 [("deed", 2)] kp rfl sc__law_holders.nd (ti_any (tr_var 0)) (blk_of (N := nm__law_holders) (sc := defScope s__law_holders) rfl rfl (by decide +kernel)) rfl (by decide) (fun s H C cl fp => pg_name (i := 2) sc__law_holders.nd rfl (Or.inl rfl)) (fun s H C cl fp => (tt_one (tb_w (tw_and (tb_eqA hr (tr_ixA hr (tr_ixA hr (tr_var 2) tr_int) tr_int) tr_str) (tw_and1 (tb_inA hr (tr_ixA hr (tr_ixA hr (tr_var 2) tr_int) tr_int) (tr_var 1))))))) (fun s H C cl fp => (tr_ixA hr (tr_var 2) tr_int))))))))
theorem ok__law_made_body (T : TX P wd K mg A) : FnOk P wd K mg base (L2.CX P wd) 4 A.f__law_made_body A.d__law_made_body ["source", "some"] (SpF ⟨K, wd⟩ 2 (m__law_made_body A)) :=
  fn_ok T.F__law_made_body sc__law_made_body (fun cdv Ar outer s H E B kp hr tk => (tss_cons (ts_set 2 sc__law_made_body.nd (kp 2) (tr_callV (ok__law_one T) (hr.mono (by omega)) T.m__law_one T.F__law_one.kp T.B__law_one tk (ta_cons (tr_var 0) (ta_cons (tr_lst true (ta_cons tr_str (ta_cons tr_str (ta_cons tr_str (ta_cons tr_str (ta_cons tr_str (ta_cons tr_str (ta_cons tr_str (ta_cons tr_str ta_nil))))))))) ta_nil)))) (tss_cons (ts_set 3 sc__law_made_body.nd (kp 3) (tr_callV (ok__law_one T) (hr.mono (by omega)) T.m__law_one T.F__law_one.kp T.B__law_one tk (ta_cons (tr_var 0) (ta_cons (tr_add true (tr_callV (ok__law_holders T) (hr.mono (by omega)) T.m__law_holders T.F__law_holders.kp T.B__law_holders tk (ta_cons (tr_var 1) ta_nil)) (tr_lst true (ta_cons (tr_tup (ta_cons tr_int (ta_cons tr_int ta_nil))) ta_nil))) ta_nil)))) (tss_one (ts_ret (tr_tup (ta_cons tr_str (ta_cons (tr_var 2) (ta_cons (tr_var 3) (ta_cons (tr_callV (ok__law_one T) (hr.mono (by omega)) T.m__law_one T.F__law_one.kp T.B__law_one tk (ta_cons (tr_var 0) (ta_cons (tr_lst true (ta_cons tr_int (ta_cons tr_int (ta_cons tr_int (ta_cons tr_int (ta_cons tr_int (ta_cons tr_int ta_nil))))))) ta_nil))) (ta_cons (tr_callV (ok__law_content T) (hr.mono (by omega)) T.m__law_content T.F__law_content.kp T.B__law_content tk (ta_cons (tr_var 0) (ta_cons (tr_var 2) (ta_cons (tr_var 1) ta_nil)))) ta_nil)))))))))))
theorem ok__law_body (T : TX P wd K mg A) : FnOk P wd K mg base (L2.CX P wd) 5 A.f__law_body A.d__law_body ["source", "some"] (SpF ⟨K, wd⟩ 2 (m__law_body A)) :=
  fn_ok T.F__law_body sc__law_body (fun cdv Ar outer s H E B kp hr tk => (tss_cons (ts_setLcV true 2 10 [("deed", 10)] kp rfl sc__law_body.nd rfl rfl (by rfl) (ti_any (tr_var 1)) (blk_of (N := nm__law_body) (sc := defScope s__law_body) rfl rfl (by decide +kernel)) rfl (by decide) (fun s H C cl fp => pg_name (i := 10) sc__law_body.nd rfl (Or.inl rfl)) (fun s H C cl fp => (tt_one (tb_eqA hr (tr_ixA hr (tr_ixA hr (tr_var 10) tr_int) tr_int) tr_str))) (fun s H C cl fp => (tr_var 10))) (tss_cons (ts_set 3 sc__law_body.nd (kp 3) (tr_lst true (ta_cons tr_str (ta_cons tr_str (ta_cons tr_str (ta_cons tr_str (ta_cons tr_str (ta_cons tr_str (ta_cons tr_str (ta_cons tr_str (ta_cons tr_str (ta_cons tr_str (ta_cons tr_str (ta_cons tr_str ta_nil)))))))))))))) (tss_cons (ts_set 4 sc__law_body.nd (kp 4) (tr_callV (ok__law_one T) (hr.mono (by omega)) T.m__law_one T.F__law_one.kp T.B__law_one tk (ta_cons (tr_var 0) (ta_cons (tr_var 3) ta_nil)))) (tss_cons (ts_if (tb_w (tw_or (tb_eqA hr (tr_var 4) tr_str) (tw_or1 (tb_eqA hr (tr_var 2) (tr_lst true ta_nil))))) (tss_one (ts_ret (tr_callV (ok__law_made_body T) (hr.mono (by omega)) T.m__law_made_body T.F__law_made_body.kp T.B__law_made_body tk (ta_cons (tr_var 0) (ta_cons (tr_var 1) ta_nil))))) tss_nil) (tss_cons (ts_if (tb_inA hr (tr_var 4) (tr_lst true (ta_cons tr_str (ta_cons tr_str ta_nil)))) (tss_one (ts_ret (tr_tup (ta_cons (tr_var 4) (ta_cons (tr_callV (ok__law_one T) (hr.mono (by omega)) T.m__law_one T.F__law_one.kp T.B__law_one tk (ta_cons (tr_var 0) (ta_cons (tr_lcV true 10 [("deed", 10)] kp rfl sc__law_body.nd (ti_any (tr_var 1)) (blk_of (N := nm__law_body) (sc := defScope s__law_body) rfl rfl (by decide +kernel)) rfl (by decide) (fun s H C cl fp => pg_name (i := 10) sc__law_body.nd rfl (Or.inl rfl)) (fun s H C cl fp => tt_nil) (fun s H C cl fp => (tr_ixA hr (tr_var 10) tr_int))) ta_nil))) ta_nil))))) tss_nil) (tss_cons (ts_set 5 sc__law_body.nd (kp 5) (tr_dget2 hr (tr_dct (tp_cons (key := Sum.inr ("wish" : Str)) pe_str tr_str (tp_cons (key := Sum.inr ("point" : Str)) pe_str tr_str (tp_cons (key := Sum.inr ("set" : Str)) pe_str tr_str tp_nil)))) (tr_var 4) tr_non)) (tss_cons (ts_setLcV true 6 10 [("deed", 10)] kp rfl sc__law_body.nd rfl rfl (by rfl) (ti_any (tr_var 2)) (blk_of (N := nm__law_body) (sc := defScope s__law_body) rfl rfl (by decide +kernel)) rfl (by decide) (fun s H C cl fp => pg_name (i := 10) sc__law_body.nd rfl (Or.inl rfl)) (fun s H C cl fp => (tt_one (tb_w (tw_or (tb_is (tr_var 5) tr_non) (tw_or1 (tb_eqA hr (tr_ixA hr (tr_ixA hr (tr_var 10) tr_int) tr_int) (tr_var 5))))))) (fun s H C cl fp => (tr_ixA hr (tr_var 10) tr_int))) (tss_cons (ts_set 7 sc__law_body.nd (kp 7) (tr_add true (tr_lst true (ta_cons (tr_tup (ta_cons tr_int (ta_cons tr_int ta_nil))) ta_nil)) (tr_lcV true 10 [("deed", 10)] kp rfl sc__law_body.nd (ti_any (tr_var 1)) (blk_of (N := nm__law_body) (sc := defScope s__law_body) rfl rfl (by decide +kernel)) rfl (by decide) (fun s H C cl fp => pg_name (i := 10) sc__law_body.nd rfl (Or.inl rfl)) (fun s H C cl fp => tt_nil) (fun s H C cl fp => (tr_ixA hr (tr_var 10) tr_int))))) (tss_cons (ts_set 8 sc__law_body.nd (kp 8) (tr_callV (ok__law_one T) (hr.mono (by omega)) T.m__law_one T.F__law_one.kp T.B__law_one tk (ta_cons (tr_var 0) (ta_cons (tr_if (tb_w (tw_and (tb_neA hr (tr_var 6) (tr_lst true ta_nil)) (tw_and1 (tb_gt (tr_callV (ok__law_take T) (hr.mono (by omega)) T.m__law_take T.F__law_take.kp T.B__law_take tk (ta_cons (tr_var 0) (ta_cons tr_int ta_nil))) tr_int)))) (tr_var 6) (tr_var 7)) ta_nil)))) (tss_cons (ts_if (tb_eqA hr (tr_var 4) tr_str) (tss_one (ts_ret (tr_tup (ta_cons (tr_var 4) (ta_cons (tr_var 8) ta_nil))))) tss_nil) (tss_cons (ts_if (tb_eqA hr (tr_var 4) tr_str) (tss_cons (ts_set 9 sc__law_body.nd (kp 9) (tr_callV (ok__law_one T) (hr.mono (by omega)) T.m__law_one T.F__law_one.kp T.B__law_one tk (ta_cons (tr_var 0) (ta_cons (tr_if (tb_gt (tr_callV (ok__law_take T) (hr.mono (by omega)) T.m__law_take T.F__law_take.kp T.B__law_take tk (ta_cons (tr_var 0) (ta_cons tr_int ta_nil))) tr_int) (tr_callV (ok__law_holders T) (hr.mono (by omega)) T.m__law_holders T.F__law_holders.kp T.B__law_holders tk (ta_cons (tr_var 1) ta_nil)) (tr_var 7)) ta_nil)))) (tss_one (ts_ret (tr_tup (ta_cons (tr_var 4) (ta_cons (tr_var 8) (ta_cons (tr_var 9) (ta_cons (tr_callV (ok__law_one T) (hr.mono (by omega)) T.m__law_one T.F__law_one.kp T.B__law_one tk (ta_cons (tr_var 0) (ta_cons (tr_lst true (ta_cons tr_int (ta_cons tr_int (ta_cons tr_int (ta_cons tr_int (ta_cons tr_int ta_nil)))))) ta_nil))) ta_nil)))))))) tss_nil) (tss_one (ts_ret (tr_tup (ta_cons (tr_var 4) (ta_cons (tr_var 8) (ta_cons (tr_callV (ok__law_content T) (hr.mono (by omega)) T.m__law_content T.F__law_content.kp T.B__law_content tk (ta_cons (tr_var 0) (ta_cons (tr_var 5) (ta_cons (tr_var 1) ta_nil)))) ta_nil))))))))))))))))))
theorem ok__law_seen_deeds (T : TX P wd K mg A) : FnOk P wd K mg base (L2.CX P wd) 1 A.f__law_seen_deeds A.d__law_seen_deeds ["world", "hand"] (SpF ⟨K, wd⟩ 2 (m__law_seen_deeds A)) :=
  fn_ok T.F__law_seen_deeds sc__law_seen_deeds (fun cdv Ar outer s H E B kp hr tk => (tss_cons (ts_set 2 sc__law_seen_deeds.nd (kp 2) (tr_ixA hr (tr_ixA hr (tr_var 0) tr_int) (tr_var 1))) (tss_one (ts_ret (tr_lcV true 3 [("deed", 3)] kp rfl sc__law_seen_deeds.nd (ti_any (tr_ixA hr (tr_var 0) tr_int)) (blk_of (N := nm__law_seen_deeds) (sc := defScope s__law_seen_deeds) rfl rfl (by decide +kernel)) rfl (by decide) (fun s H C cl fp => pg_name (i := 3) sc__law_seen_deeds.nd rfl (Or.inl rfl)) (fun s H C cl fp => (tt_one (tb_le (tr_ixA hr (tr_ixA hr (tr_var 3) tr_int) tr_int) (tr_ixA hr (tr_var 2) (tr_ixA hr (tr_ixA hr (tr_var 3) tr_int) tr_int))))) (fun s H C cl fp => (tr_var 3)))))))
theorem ok__law_step (T : TX P wd K mg A) : FnOk P wd K mg base (L2.CX P wd) 6 A.f__law_step A.d__law_step ["source", "world"] (SpF ⟨K, wd⟩ 2 (m__law_step A)) :=
  fn_ok T.F__law_step sc__law_step (fun cdv Ar outer s H E B kp hr tk => (tss_cons (ts_set 2 sc__law_step.nd (kp 2) (tr_callV (ok__law_take T) (hr.mono (by omega)) T.m__law_take T.F__law_take.kp T.B__law_take tk (ta_cons (tr_var 0) (ta_cons (tr_ixA hr (tr_var 1) tr_int) ta_nil)))) (tss_cons (ts_if (tb_eqA hr (tr_callV (ok__law_take T) (hr.mono (by omega)) T.m__law_take T.F__law_take.kp T.B__law_take tk (ta_cons (tr_var 0) (ta_cons tr_int ta_nil))) tr_int) (tss_one (ts_drop (tr_callV (ok__law_learn T) (hr.mono (by omega)) T.m__law_learn T.F__law_learn.kp T.B__law_learn tk (ta_cons (tr_var 0) (ta_cons (tr_var 1) (ta_cons (tr_var 2) ta_nil)))))) tss_nil) (tss_one (ts_ret (tr_callV (ok__law_do T) (hr.mono (by omega)) T.m__law_do T.F__law_do.kp T.B__law_do tk (ta_cons (tr_var 0) (ta_cons (tr_var 1) (ta_cons (tr_var 2) (ta_cons (tr_callV (ok__law_body T) (hr.mono (by omega)) T.m__law_body T.F__law_body.kp T.B__law_body tk (ta_cons (tr_var 0) (ta_cons (tr_callV (ok__law_seen_deeds T) (hr.mono (by omega)) T.m__law_seen_deeds T.F__law_seen_deeds.kp T.B__law_seen_deeds tk (ta_cons (tr_var 1) (ta_cons (tr_var 2) ta_nil))) ta_nil))) ta_nil))))))))))
theorem ok__law_drawn (T : TX P wd K mg A) : FnOk P wd K mg base (L2.CX P wd) 7 A.f__law_drawn A.d__law_drawn ["source", "most", "many"] (SpF ⟨K, wd⟩ 3 (m__law_drawn A)) :=
  fn_ok T.F__law_drawn sc__law_drawn (fun cdv Ar outer s H E B kp hr tk => (tss_cons (ts_set 3 sc__law_drawn.nd (kp 3) (tr_callV (ok__law_world T) (hr.mono (by omega)) T.m__law_world T.F__law_world.kp T.B__law_world tk (ta_cons (tr_add true tr_int (tr_callV (ok__law_take T) (hr.mono (by omega)) T.m__law_take T.F__law_take.kp T.B__law_take tk (ta_cons (tr_var 0) (ta_cons (tr_var 2) ta_nil)))) ta_nil))) (tss_cons (ts_if (tb_gt (tr_callV (ok__law_take T) (hr.mono (by omega)) T.m__law_take T.F__law_take.kp T.B__law_take tk (ta_cons (tr_var 0) (ta_cons tr_int ta_nil))) tr_int) (tss_cons (ts_set 4 sc__law_drawn.nd (kp 4) (tr_callV (ok__law_do T) (hr.mono (by omega)) T.m__law_do T.F__law_do.kp T.B__law_do tk (ta_cons (tr_var 0) (ta_cons (tr_var 3) (ta_cons tr_int (ta_cons (tr_tup (ta_cons tr_str (ta_cons tr_str (ta_cons (tr_tup (ta_cons tr_int (ta_cons tr_int ta_nil))) (ta_cons tr_int (ta_cons tr_str ta_nil)))))) ta_nil)))))) (tss_cons (ts_drop (tr_callV (ok__law_do T) (hr.mono (by omega)) T.m__law_do T.F__law_do.kp T.B__law_do tk (ta_cons (tr_var 0) (ta_cons (tr_var 3) (ta_cons tr_int (ta_cons (tr_tup (ta_cons tr_str (ta_cons tr_str (ta_cons (tr_tup (ta_cons tr_int (ta_cons tr_int ta_nil))) (ta_cons tr_int (ta_cons (tr_var 4) ta_nil)))))) ta_nil)))))) (tss_one (ts_for (passes_of rfl) (ti_rng1 T.b_range (ta_cons (tr_ixA hr (tr_var 3) tr_int) ta_nil)) (tg_name 5 sc__law_drawn.nd (kp 5)) (tss_one (ts_sub (tr_listc true T.b_list (ta_cons (tr_ixA hr (tr_ixA hr (tr_var 3) tr_int) tr_int) ta_nil)) (tr_ixA hr (tr_var 3) tr_int) (tr_var 5) (fun _ _ _ h1 h2 h3 => ps_asg h1 (pg_sub h2 h3 set_list)))))))) tss_nil) (tss_cons (ts_for (passes_of rfl) (ti_rng1 T.b_range (ta_cons (tr_callV (ok__law_take T) (hr.mono (by omega)) T.m__law_take T.F__law_take.kp T.B__law_take tk (ta_cons (tr_var 0) (ta_cons (tr_add true (tr_var 1) tr_int) ta_nil))) ta_nil)) (tg_name 6 sc__law_drawn.nd (kp 6)) (tss_one (ts_drop (tr_callV (ok__law_step T) (hr.mono (by omega)) T.m__law_step T.F__law_step.kp T.B__law_step tk (ta_cons (tr_var 0) (ta_cons (tr_var 3) ta_nil)))))) (tss_one (ts_ret (tr_var 3)))))))
theorem ok__law_odd (T : TX P wd K mg A) : FnOk P wd K mg base (L2.CX P wd) 3 A.f__law_odd A.d__law_odd ["source"] (SpF ⟨K, wd⟩ 1 (m__law_odd A)) :=
  fn_ok T.F__law_odd sc__law_odd (fun cdv Ar outer s H E B kp hr tk => (tss_cons (ts_set 1 sc__law_odd.nd (kp 1) (tr_lst true (ta_cons tr_non (ta_cons tr_bl (ta_cons tr_bl (ta_cons tr_int (ta_cons tr_int (ta_cons tr_int (ta_cons tr_int (ta_cons (tr_neg tr_int) (ta_cons tr_str (ta_cons tr_str (ta_cons tr_str (ta_cons tr_str (ta_cons tr_str (ta_cons tr_str (ta_cons tr_str (ta_cons tr_str (ta_cons tr_str ta_nil))))))))))))))))))) (tss_cons (ts_set 1 sc__law_odd.nd (kp 1) (tr_add true (tr_var 1) (tr_lst true (ta_cons (tr_tup ta_nil) (ta_cons (tr_tup (ta_cons tr_int (ta_cons tr_int ta_nil))) (ta_cons (tr_tup (ta_cons tr_int (ta_cons tr_int ta_nil))) (ta_cons (tr_tup (ta_cons tr_int (ta_cons tr_int ta_nil))) (ta_cons (tr_tup (ta_cons tr_int (ta_cons tr_int ta_nil))) (ta_cons (tr_tup (ta_cons tr_bl (ta_cons tr_int ta_nil))) (ta_cons (tr_tup (ta_cons tr_int (ta_cons tr_bl ta_nil))) (ta_cons (tr_tup (ta_cons tr_int (ta_cons tr_int ta_nil))) (ta_cons (tr_lst true (ta_cons tr_int (ta_cons tr_int ta_nil))) (ta_cons (tr_tup (ta_cons tr_int (ta_cons tr_int (ta_cons tr_int ta_nil)))) ta_nil))))))))))))) (tss_cons (ts_set 1 sc__law_odd.nd (kp 1) (tr_add true (tr_var 1) (tr_lst true (ta_cons (tr_tup (ta_cons tr_str (ta_cons tr_int ta_nil))) (ta_cons tr_dct0 ta_nil))))) (tss_cons (ts_set 1 sc__law_odd.nd (kp 1) (tr_add true (tr_var 1) (tr_lst true (ta_cons (tr_tup (ta_cons tr_int (ta_cons tr_int (ta_cons tr_int (ta_cons tr_int ta_nil))))) (ta_cons (tr_lst true (ta_cons tr_int (ta_cons tr_int (ta_cons tr_int (ta_cons tr_int ta_nil))))) (ta_cons (tr_tup (ta_cons tr_int (ta_cons tr_int (ta_cons tr_int ta_nil)))) (ta_cons (tr_tup (ta_cons tr_int (ta_cons tr_int (ta_cons tr_int (ta_cons tr_bl ta_nil))))) (ta_cons (tr_tup (ta_cons tr_str (ta_cons (tr_tup (ta_cons tr_int (ta_cons tr_int ta_nil))) ta_nil))) (ta_cons (tr_tup (ta_cons tr_str ta_nil)) ta_nil))))))))) (tss_one (ts_ret (tr_callV (ok__law_one T) (hr.mono (by omega)) T.m__law_one T.F__law_one.kp T.B__law_one tk (ta_cons (tr_var 0) (ta_cons (tr_var 1) ta_nil))))))))))
theorem ok__law_bent (T : TX P wd K mg A) : FnOk P wd K mg base (L2.CX P wd) 4 A.f__law_bent A.d__law_bent ["source", "thing"] (SpF ⟨K, wd⟩ 2 (m__law_bent A)) :=
  fn_ok T.F__law_bent sc__law_bent (fun cdv Ar outer s H E B kp hr tk => (tss_cons (ts_set 2 sc__law_bent.nd (kp 2) (tr_callV (ok__law_take T) (hr.mono (by omega)) T.m__law_take T.F__law_take.kp T.B__law_take tk (ta_cons (tr_var 0) (ta_cons tr_int ta_nil)))) (tss_cons (ts_if (tb_eqA hr (tr_var 2) tr_int) (tss_one (ts_ret (tr_add true (tr_var 1) (tr_tup (ta_cons (tr_callV (ok__law_odd T) (hr.mono (by omega)) T.m__law_odd T.F__law_odd.kp T.B__law_odd tk (ta_cons (tr_var 0) ta_nil)) ta_nil))))) tss_nil) (tss_cons (ts_if (tb_eqA hr (tr_var 2) tr_int) (tss_one (ts_ret (tr_sl true (tr_var 1) to_no (to_so (tr_neg tr_int))))) tss_nil) (tss_cons (ts_set 3 sc__law_bent.nd (kp 3) (tr_callV (ok__law_take T) (hr.mono (by omega)) T.m__law_take T.F__law_take.kp T.B__law_take tk (ta_cons (tr_var 0) (ta_cons (tr_lenA T.b_len (ta_cons (tr_var 1) ta_nil)) ta_nil)))) (tss_one (ts_ret (tr_add true (tr_add true (tr_sl true (tr_var 1) to_no (to_so (tr_var 3))) (tr_tup (ta_cons (tr_callV (ok__law_odd T) (hr.mono (by omega)) T.m__law_odd T.F__law_odd.kp T.B__law_odd tk (ta_cons (tr_var 0) ta_nil)) ta_nil))) (tr_sl true (tr_var 1) (to_so (tr_add true (tr_var 3) tr_int)) to_no)))))))))
theorem ok_is_name (T : TX P wd K mg A) : FnOk P wd K mg base (L2.CX P wd) 1 A.f_is_name A.d_is_name ["value"] (SpF ⟨K, wd⟩ 1 (m_is_name A)) :=
  fn_ok T.F_is_name sc_is_name (fun cdv Ar outer s H E B kp hr tk => (tss_one (ts_ret (tr_and (tr_isiA (tr_var 0) T.b_isinstance T.b_str (by decide +kernel)) (tr_and (tr_chain op_le so_B0 op_le so_B0 tr_int (tr_lenA T.b_len (ta_cons (tr_var 0) ta_nil)) tr_int) (tr_one (tr_all T.b_all (ta_cons (tr_lcV true 1 [("sign", 1)] kp rfl sc_is_name.nd (ti_any (tr_var 0)) (blk_of (N := nm_is_name) (sc := defScope s_is_name) rfl rfl (by decide +kernel)) rfl (by decide) (fun s H C cl fp => pg_name (i := 1) sc_is_name.nd rfl (Or.inl rfl)) (fun s H C cl fp => tt_nil) (fun s H C cl fp => (tr_inA hr (tr_var 1) (tr_gstr T.g_NAME_LETTERS.choose_spec)))) ta_nil))))))))
theorem ok_is_tuple_of (T : TX P wd K mg A) : FnOk P wd K mg base (L2.CX P wd) 1 A.f_is_tuple_of A.d_is_tuple_of ["value", "many"] (SpF ⟨K, wd⟩ 2 (m_is_tuple_of A)) :=
  fn_ok T.F_is_tuple_of sc_is_tuple_of (fun cdv Ar outer s H E B kp hr tk => (tss_one (ts_ret (tr_and (tr_isiA (tr_var 0) T.b_isinstance T.b_tuple (by decide +kernel)) (tr_one (tr_eqA hr (tr_lenA T.b_len (ta_cons (tr_var 0) ta_nil)) (tr_var 1)))))))
theorem ok_is_whole (T : TX P wd K mg A) : FnOk P wd K mg base (L2.CX P wd) 1 A.f_is_whole A.d_is_whole ["value"] (SpF ⟨K, wd⟩ 1 (m_is_whole A)) :=
  fn_ok T.F_is_whole sc_is_whole (fun cdv Ar outer s H E B kp hr tk => (tss_one (ts_ret (tr_and (tr_isiA (tr_var 0) T.b_isinstance T.b_int (by decide +kernel)) (tr_one (tr_not (tr_isiA (tr_var 0) T.b_isinstance T.b_bool (by decide +kernel))))))))
theorem ok_is_number (T : TX P wd K mg A) : FnOk P wd K mg base (L2.CX P wd) 2 A.f_is_number A.d_is_number ["value", "low", "high"] (SpF ⟨K, wd⟩ 3 (m_is_number A)) :=
  fn_ok T.F_is_number sc_is_number (fun cdv Ar outer s H E B kp hr tk => (tss_one (ts_ret (tr_and (tr_callV (ok_is_whole T) (hr.mono (by omega)) T.m_is_whole T.F_is_whole.kp T.B_is_whole tk (ta_cons (tr_var 0) ta_nil)) (tr_one (tr_chain op_le so_B0 op_le so_B0 (tr_var 1) (tr_var 0) (tr_var 2)))))))
theorem ok_is_stamp (T : TX P wd K mg A) : FnOk P wd K mg base (L2.CX P wd) 3 A.f_is_stamp A.d_is_stamp ["value"] (SpF ⟨K, wd⟩ 1 (m_is_stamp A)) :=
  fn_ok T.F_is_stamp sc_is_stamp (fun cdv Ar outer s H E B kp hr tk => (tss_one (ts_ret (tr_and (tr_callV (ok_is_tuple_of T) (hr.mono (by omega)) T.m_is_tuple_of T.F_is_tuple_of.kp T.B_is_tuple_of tk (ta_cons (tr_var 0) (ta_cons tr_int ta_nil))) (tr_and (tr_callV (ok_is_number T) (hr.mono (by omega)) T.m_is_number T.F_is_number.kp T.B_is_number tk (ta_cons (tr_ixA hr (tr_var 0) tr_int) (ta_cons tr_int (ta_cons (tr_gint T.g_MOST_TIME.choose_spec) ta_nil)))) (tr_one (tr_callV (ok_is_number T) (hr.mono (by omega)) T.m_is_number T.F_is_number.kp T.B_is_number tk (ta_cons (tr_ixA hr (tr_var 0) tr_int) (ta_cons tr_int (ta_cons (tr_gint T.g_MOST_HAND.choose_spec) ta_nil))))))))))
theorem ok_is_place_name (T : TX P wd K mg A) : FnOk P wd K mg base (L2.CX P wd) 4 A.f_is_place_name A.d_is_place_name ["value"] (SpF ⟨K, wd⟩ 1 (m_is_place_name A)) :=
  fn_ok T.F_is_place_name sc_is_place_name (fun cdv Ar outer s H E B kp hr tk => (tss_cons (ts_if (tb_val (tr_callV (ok_is_stamp T) (hr.mono (by omega)) T.m_is_stamp T.F_is_stamp.kp T.B_is_stamp tk (ta_cons (tr_var 0) ta_nil))) (tss_one (ts_ret tr_bl)) tss_nil) (tss_one (ts_ret (tr_and (tr_callV (ok_is_tuple_of T) (hr.mono (by omega)) T.m_is_tuple_of T.F_is_tuple_of.kp T.B_is_tuple_of tk (ta_cons (tr_var 0) (ta_cons tr_int ta_nil))) (tr_and (tr_callV (ok_is_number T) (hr.mono (by omega)) T.m_is_number T.F_is_number.kp T.B_is_number tk (ta_cons (tr_ixA hr (tr_var 0) tr_int) (ta_cons tr_int (ta_cons tr_int ta_nil)))) (tr_one (tr_callV (ok_is_number T) (hr.mono (by omega)) T.m_is_number T.F_is_number.kp T.B_is_number tk (ta_cons (tr_ixA hr (tr_var 0) tr_int) (ta_cons tr_int (ta_cons tr_int ta_nil)))))))))))
theorem ok_is_binder (T : TX P wd K mg A) : FnOk P wd K mg base (L2.CX P wd) 5 A.f_is_binder A.d_is_binder ["value"] (SpF ⟨K, wd⟩ 1 (m_is_binder A)) :=
  fn_ok T.F_is_binder sc_is_binder (fun cdv Ar outer s H E B kp hr tk => (tss_one (ts_ret (tr_or (tr_is (tr_var 0) tr_non) (tr_one (tr_callV (ok_is_place_name T) (hr.mono (by omega)) T.m_is_place_name T.F_is_place_name.kp T.B_is_place_name tk (ta_cons (tr_var 0) ta_nil)))))))
theorem ok_is_content (T : TX P wd K mg A) : FnOk P wd K mg base (L2.CX P wd) 6 A.f_is_content A.d_is_content ["kind", "content"] (SpF ⟨K, wd⟩ 2 (m_is_content A)) :=
  fn_ok T.F_is_content sc_is_content (fun cdv Ar outer s H E B kp hr tk => (tss_cons (ts_if (tb_not (tb_val (tr_isiA (tr_var 0) T.b_isinstance T.b_str (by decide +kernel)))) (tss_one (ts_ret tr_bl)) tss_nil) (tss_cons (ts_if (tb_eqA hr (tr_var 0) tr_str) (tss_one (ts_ret (tr_callV (ok_is_name T) (hr.mono (by omega)) T.m_is_name T.F_is_name.kp T.B_is_name tk (ta_cons (tr_var 1) ta_nil)))) tss_nil) (tss_cons (ts_if (tb_eqA hr (tr_var 0) tr_str) (tss_one (ts_ret (tr_callV (ok_is_binder T) (hr.mono (by omega)) T.m_is_binder T.F_is_binder.kp T.B_is_binder tk (ta_cons (tr_var 1) ta_nil)))) tss_nil) (tss_cons (ts_if (tb_eqA hr (tr_var 0) tr_str) (tss_one (ts_ret (tr_callV (ok_is_number T) (hr.mono (by omega)) T.m_is_number T.F_is_number.kp T.B_is_number tk (ta_cons (tr_var 1) (ta_cons tr_int (ta_cons (tr_gint T.g_MOST_VALUE.choose_spec) ta_nil)))))) tss_nil) (tss_one (ts_ret (tr_and (tr_inA hr (tr_var 0) (tr_gtup T.t_HOLDERS T.g_HOLDERS)) (tr_one (tr_is (tr_var 1) tr_non))))))))))
theorem ok_is_make (T : TX P wd K mg A) : FnOk P wd K mg base (L2.CX P wd) 7 A.f_is_make A.d_is_make ["body"] (SpF ⟨K, wd⟩ 1 (m_is_make A)) :=
  fn_ok T.F_is_make sc_is_make (fun cdv Ar outer s H E B kp hr tk => (tss_cons (ts_if (tb_w (tw_or (tb_neA hr (tr_lenA T.b_len (ta_cons (tr_var 0) ta_nil)) tr_int) (tw_or (tb_not (tb_val (tr_callV (ok_is_place_name T) (hr.mono (by omega)) T.m_is_place_name T.F_is_place_name.kp T.B_is_place_name tk (ta_cons (tr_ixA hr (tr_var 0) tr_int) ta_nil)))) (tw_or1 (tb_not (tb_val (tr_callV (ok_is_number T) (hr.mono (by omega)) T.m_is_number T.F_is_number.kp T.B_is_number tk (ta_cons (tr_ixA hr (tr_var 0) tr_int) (ta_cons tr_int (ta_cons (tr_gint T.g_MOST_KEY.choose_spec) ta_nil)))))))))) (tss_one (ts_ret tr_bl)) tss_nil) (tss_one (ts_ret (tr_callV (ok_is_content T) (hr.mono (by omega)) T.m_is_content T.F_is_content.kp T.B_is_content tk (ta_cons (tr_ixA hr (tr_var 0) tr_int) (ta_cons (tr_ixA hr (tr_var 0) tr_int) ta_nil)))))))
theorem ok_is_placing_body (T : TX P wd K mg A) : FnOk P wd K mg base (L2.CX P wd) 5 A.f_is_placing_body A.d_is_placing_body ["body"] (SpF ⟨K, wd⟩ 1 (m_is_placing_body A)) :=
  fn_ok T.F_is_placing_body sc_is_placing_body (fun cdv Ar outer s H E B kp hr tk => (tss_cons (ts_if (tb_eqA hr (tr_ixA hr (tr_var 0) tr_int) tr_str) (tss_one (ts_ret (tr_and (tr_eqA hr (tr_lenA T.b_len (ta_cons (tr_var 0) ta_nil)) tr_int) (tr_one (tr_callV (ok_is_place_name T) (hr.mono (by omega)) T.m_is_place_name T.F_is_place_name.kp T.B_is_place_name tk (ta_cons (tr_ixA hr (tr_var 0) tr_int) ta_nil)))))) tss_nil) (tss_one (ts_ret (tr_and (tr_eqA hr (tr_lenA T.b_len (ta_cons (tr_var 0) ta_nil)) tr_int) (tr_and (tr_callV (ok_is_place_name T) (hr.mono (by omega)) T.m_is_place_name T.F_is_place_name.kp T.B_is_place_name tk (ta_cons (tr_ixA hr (tr_var 0) tr_int) ta_nil)) (tr_and (tr_callV (ok_is_place_name T) (hr.mono (by omega)) T.m_is_place_name T.F_is_place_name.kp T.B_is_place_name tk (ta_cons (tr_ixA hr (tr_var 0) tr_int) ta_nil)) (tr_one (tr_callV (ok_is_number T) (hr.mono (by omega)) T.m_is_number T.F_is_number.kp T.B_is_number tk (ta_cons (tr_ixA hr (tr_var 0) tr_int) (ta_cons tr_int (ta_cons (tr_gint T.g_MOST_KEY.choose_spec) ta_nil))))))))))))
theorem ok_is_content_body (T : TX P wd K mg A) : FnOk P wd K mg base (L2.CX P wd) 7 A.f_is_content_body A.d_is_content_body ["body"] (SpF ⟨K, wd⟩ 1 (m_is_content_body A)) :=
  fn_ok T.F_is_content_body sc_is_content_body (fun cdv Ar outer s H E B kp hr tk => (tss_cons (ts_if (tb_w (tw_or (tb_neA hr (tr_lenA T.b_len (ta_cons (tr_var 0) ta_nil)) tr_int) (tw_or1 (tb_not (tb_val (tr_callV (ok_is_place_name T) (hr.mono (by omega)) T.m_is_place_name T.F_is_place_name.kp T.B_is_place_name tk (ta_cons (tr_ixA hr (tr_var 0) tr_int) ta_nil))))))) (tss_one (ts_ret tr_bl)) tss_nil) (tss_cons (ts_set 1 sc_is_content_body.nd (kp 1) (tr_ixA hr (tr_dct (tp_cons (key := Sum.inr ("wish" : Str)) pe_str tr_str (tp_cons (key := Sum.inr ("point" : Str)) pe_str tr_str (tp_cons (key := Sum.inr ("set" : Str)) pe_str tr_str tp_nil)))) (tr_ixA hr (tr_var 0) tr_int))) (tss_one (ts_ret (tr_callV (ok_is_content T) (hr.mono (by omega)) T.m_is_content T.F_is_content.kp T.B_is_content tk (ta_cons (tr_var 1) (ta_cons (tr_ixA hr (tr_var 0) tr_int) ta_nil))))))))
theorem ok_is_body (T : TX P wd K mg A) : FnOk P wd K mg base (L2.CX P wd) 8 A.f_is_body A.d_is_body ["value"] (SpF ⟨K, wd⟩ 1 (m_is_body A)) :=
  fn_ok T.F_is_body sc_is_body (fun cdv Ar outer s H E B kp hr tk => (tss_cons (ts_if (tb_w (tw_or (tb_not (tb_val (tr_isiA (tr_var 0) T.b_isinstance T.b_tuple (by decide +kernel)))) (tw_or (tb_lt (tr_lenA T.b_len (ta_cons (tr_var 0) ta_nil)) tr_int) (tw_or1 (tb_not (tb_val (tr_isiA (tr_ixA hr (tr_var 0) tr_int) T.b_isinstance T.b_str (by decide +kernel)))))))) (tss_one (ts_ret tr_bl)) tss_nil) (tss_cons (ts_if (tb_eqA hr (tr_ixA hr (tr_var 0) tr_int) tr_str) (tss_one (ts_ret (tr_callV (ok_is_make T) (hr.mono (by omega)) T.m_is_make T.F_is_make.kp T.B_is_make tk (ta_cons (tr_var 0) ta_nil)))) tss_nil) (tss_cons (ts_if (tb_inA hr (tr_ixA hr (tr_var 0) tr_int) (tr_tup (ta_cons tr_str (ta_cons tr_str ta_nil)))) (tss_one (ts_ret (tr_callV (ok_is_placing_body T) (hr.mono (by omega)) T.m_is_placing_body T.F_is_placing_body.kp T.B_is_placing_body tk (ta_cons (tr_var 0) ta_nil)))) tss_nil) (tss_cons (ts_if (tb_inA hr (tr_ixA hr (tr_var 0) tr_int) (tr_tup (ta_cons tr_str (ta_cons tr_str (ta_cons tr_str ta_nil))))) (tss_one (ts_ret (tr_callV (ok_is_content_body T) (hr.mono (by omega)) T.m_is_content_body T.F_is_content_body.kp T.B_is_content_body tk (ta_cons (tr_var 0) ta_nil)))) tss_nil) (tss_one (ts_ret (tr_and (tr_inA hr (tr_ixA hr (tr_var 0) tr_int) (tr_gtup T.t_MARK_WORDS T.g_MARK_WORDS)) (tr_and (tr_eqA hr (tr_lenA T.b_len (ta_cons (tr_var 0) ta_nil)) tr_int) (tr_one (tr_callV (ok_is_stamp T) (hr.mono (by omega)) T.m_is_stamp T.F_is_stamp.kp T.B_is_stamp tk (ta_cons (tr_ixA hr (tr_var 0) tr_int) ta_nil))))))))))))
theorem ok_is_seen (T : TX P wd K mg A) : FnOk P wd K mg base (L2.CX P wd) 3 A.f_is_seen A.d_is_seen ["value", "stamp"] (SpF ⟨K, wd⟩ 2 (m_is_seen A)) :=
  fn_ok T.F_is_seen sc_is_seen (fun cdv Ar outer s H E B kp hr tk => (tss_one (ts_ret (tr_and (tr_callV (ok_is_tuple_of T) (hr.mono (by omega)) T.m_is_tuple_of T.F_is_tuple_of.kp T.B_is_tuple_of tk (ta_cons (tr_var 0) (ta_cons (tr_add true (tr_gint T.g_MOST_HAND.choose_spec) tr_int) ta_nil))) (tr_one (tr_all T.b_all (ta_cons (tr_lcV true 2 [("time", 2)] kp rfl sc_is_seen.nd (ti_any (tr_var 0)) (blk_of (N := nm_is_seen) (sc := defScope s_is_seen) rfl rfl (by decide +kernel)) rfl (by decide) (fun s H C cl fp => pg_name (i := 2) sc_is_seen.nd rfl (Or.inl rfl)) (fun s H C cl fp => tt_nil) (fun s H C cl fp => (tr_callV (ok_is_number T) (hr.mono (by omega)) T.m_is_number T.F_is_number.kp T.B_is_number L2.takes0 (ta_cons (tr_var 2) (ta_cons tr_int (ta_cons (tr_sub (tr_ixA hr (tr_var 1) tr_int) tr_int) ta_nil)))))) ta_nil)))))))
theorem ok_is_deed (T : TX P wd K mg A) : FnOk P wd K mg base (L2.CX P wd) 9 A.f_is_deed A.d_is_deed ["value"] (SpF ⟨K, wd⟩ 1 (m_is_deed A)) :=
  fn_ok T.F_is_deed sc_is_deed (fun cdv Ar outer s H E B kp hr tk => (tss_cons (ts_if (tb_w (tw_or (tb_not (tb_val (tr_callV (ok_is_tuple_of T) (hr.mono (by omega)) T.m_is_tuple_of T.F_is_tuple_of.kp T.B_is_tuple_of tk (ta_cons (tr_var 0) (ta_cons tr_int ta_nil))))) (tw_or1 (tb_not (tb_val (tr_callV (ok_is_stamp T) (hr.mono (by omega)) T.m_is_stamp T.F_is_stamp.kp T.B_is_stamp tk (ta_cons (tr_ixA hr (tr_var 0) tr_int) ta_nil))))))) (tss_one (ts_ret tr_bl)) tss_nil) (tss_one (ts_ret (tr_and (tr_callV (ok_is_seen T) (hr.mono (by omega)) T.m_is_seen T.F_is_seen.kp T.B_is_seen tk (ta_cons (tr_ixA hr (tr_var 0) tr_int) (ta_cons (tr_ixA hr (tr_var 0) tr_int) ta_nil))) (tr_one (tr_callV (ok_is_body T) (hr.mono (by omega)) T.m_is_body T.F_is_body.kp T.B_is_body tk (ta_cons (tr_ixA hr (tr_var 0) tr_int) ta_nil))))))))
theorem ok_does_hold (T : TX P wd K mg A) : FnOk P wd K mg base (L2.CX P wd) 1 A.f_does_hold A.d_does_hold ["kind"] (SpF ⟨K, wd⟩ 1 (m_does_hold A)) :=
  fn_ok T.F_does_hold sc_does_hold (fun cdv Ar outer s H E B kp hr tk => (tss_one (ts_ret (tr_and (tr_isiA (tr_var 0) T.b_isinstance T.b_str (by decide +kernel)) (tr_one (tr_inA hr (tr_var 0) (tr_gtup T.t_HOLDERS T.g_HOLDERS)))))))
theorem ok__law_a_name (T : TX P wd K mg A) : FnOk P wd K mg base (L2.CX P wd) 1 A.f__law_a_name A.d__law_a_name ["value"] (SpF ⟨K, wd⟩ 1 (m__law_a_name A)) :=
  fn_ok T.F__law_a_name sc__law_a_name (fun cdv Ar outer s H E B kp hr tk => (tss_cons (ts_if (tb_w (tw_or (tb_not (tb_val (tr_isiA (tr_var 0) T.b_isinstance T.b_str (by decide +kernel)))) (tw_or1 (tb_not (tb_chain op_le so_B0 op_le so_B0 tr_int (tr_lenA T.b_len (ta_cons (tr_var 0) ta_nil)) tr_int))))) (tss_one (ts_ret tr_bl)) tss_nil) (tss_one (ts_ret (tr_eqA hr (tr_lcV true 1 [("sign", 1)] kp rfl sc__law_a_name.nd (ti_any (tr_var 0)) (blk_of (N := nm__law_a_name) (sc := defScope s__law_a_name) rfl rfl (by decide +kernel)) rfl (by decide) (fun s H C cl fp => pg_name (i := 1) sc__law_a_name.nd rfl (Or.inl rfl)) (fun s H C cl fp => (tt_one (tb_ninA hr (tr_var 1) tr_str))) (fun s H C cl fp => (tr_var 1))) (tr_lst true ta_nil))))))
theorem ok__law_whole (T : TX P wd K mg A) : FnOk P wd K mg base (L2.CX P wd) 1 A.f__law_whole A.d__law_whole ["value", "low", "high"] (SpF ⟨K, wd⟩ 3 (m__law_whole A)) :=
  fn_ok T.F__law_whole sc__law_whole (fun cdv Ar outer s H E B kp hr tk => (tss_one (ts_ret (tr_and (tr_isiA (tr_var 0) T.b_isinstance T.b_int (by decide +kernel)) (tr_and (tr_not (tr_isiA (tr_var 0) T.b_isinstance T.b_bool (by decide +kernel))) (tr_one (tr_chain op_le so_B0 op_le so_B0 (tr_var 1) (tr_var 0) (tr_var 2))))))))
theorem ok__law_a_stamp (T : TX P wd K mg A) : FnOk P wd K mg base (L2.CX P wd) 2 A.f__law_a_stamp A.d__law_a_stamp ["value"] (SpF ⟨K, wd⟩ 1 (m__law_a_stamp A)) :=
  fn_ok T.F__law_a_stamp sc__law_a_stamp (fun cdv Ar outer s H E B kp hr tk => (tss_cons (ts_if (tb_w (tw_or (tb_not (tb_val (tr_isiA (tr_var 0) T.b_isinstance T.b_tuple (by decide +kernel)))) (tw_or1 (tb_neA hr (tr_lenA T.b_len (ta_cons (tr_var 0) ta_nil)) tr_int)))) (tss_one (ts_ret tr_bl)) tss_nil) (tss_one (ts_ret (tr_and (tr_callV (ok__law_whole T) (hr.mono (by omega)) T.m__law_whole T.F__law_whole.kp T.B__law_whole tk (ta_cons (tr_ixA hr (tr_var 0) tr_int) (ta_cons tr_int (ta_cons tr_int ta_nil)))) (tr_one (tr_callV (ok__law_whole T) (hr.mono (by omega)) T.m__law_whole T.F__law_whole.kp T.B__law_whole tk (ta_cons (tr_ixA hr (tr_var 0) tr_int) (ta_cons tr_int (ta_cons tr_int ta_nil))))))))))
theorem ok__law_a_place (T : TX P wd K mg A) : FnOk P wd K mg base (L2.CX P wd) 3 A.f__law_a_place A.d__law_a_place ["value"] (SpF ⟨K, wd⟩ 1 (m__law_a_place A)) :=
  fn_ok T.F__law_a_place sc__law_a_place (fun cdv Ar outer s H E B kp hr tk => (tss_cons (ts_if (tb_val (tr_callV (ok__law_a_stamp T) (hr.mono (by omega)) T.m__law_a_stamp T.F__law_a_stamp.kp T.B__law_a_stamp tk (ta_cons (tr_var 0) ta_nil))) (tss_one (ts_ret tr_bl)) tss_nil) (tss_cons (ts_if (tb_w (tw_or (tb_not (tb_val (tr_isiA (tr_var 0) T.b_isinstance T.b_tuple (by decide +kernel)))) (tw_or1 (tb_neA hr (tr_lenA T.b_len (ta_cons (tr_var 0) ta_nil)) tr_int)))) (tss_one (ts_ret tr_bl)) tss_nil) (tss_one (ts_ret (tr_and (tr_callV (ok__law_whole T) (hr.mono (by omega)) T.m__law_whole T.F__law_whole.kp T.B__law_whole tk (ta_cons (tr_ixA hr (tr_var 0) tr_int) (ta_cons tr_int (ta_cons tr_int ta_nil)))) (tr_one (tr_callV (ok__law_whole T) (hr.mono (by omega)) T.m__law_whole T.F__law_whole.kp T.B__law_whole tk (ta_cons (tr_ixA hr (tr_var 0) tr_int) (ta_cons tr_int (ta_cons tr_int ta_nil)))))))))))
theorem ok__law_a_content (T : TX P wd K mg A) : FnOk P wd K mg base (L2.CX P wd) 4 A.f__law_a_content A.d__law_a_content ["kind", "value"] (SpF ⟨K, wd⟩ 2 (m__law_a_content A)) :=
  fn_ok T.F__law_a_content sc__law_a_content (fun cdv Ar outer s H E B kp hr tk => (tss_cons (ts_if (tb_eqA hr (tr_var 0) tr_str) (tss_one (ts_ret (tr_callV (ok__law_a_name T) (hr.mono (by omega)) T.m__law_a_name T.F__law_a_name.kp T.B__law_a_name tk (ta_cons (tr_var 1) ta_nil)))) tss_nil) (tss_cons (ts_if (tb_eqA hr (tr_var 0) tr_str) (tss_one (ts_ret (tr_or (tr_is (tr_var 1) tr_non) (tr_one (tr_callV (ok__law_a_place T) (hr.mono (by omega)) T.m__law_a_place T.F__law_a_place.kp T.B__law_a_place tk (ta_cons (tr_var 1) ta_nil)))))) tss_nil) (tss_cons (ts_if (tb_eqA hr (tr_var 0) tr_str) (tss_one (ts_ret (tr_callV (ok__law_whole T) (hr.mono (by omega)) T.m__law_whole T.F__law_whole.kp T.B__law_whole tk (ta_cons (tr_var 1) (ta_cons tr_int (ta_cons tr_int ta_nil)))))) tss_nil) (tss_one (ts_ret (tr_and (tr_inA hr (tr_var 0) (tr_lst true (ta_cons tr_str (ta_cons tr_str (ta_cons tr_str ta_nil))))) (tr_one (tr_is (tr_var 1) tr_non)))))))))
theorem ok__law_a_body (T : TX P wd K mg A) : FnOk P wd K mg base (L2.CX P wd) 5 A.f__law_a_body A.d__law_a_body ["value"] (SpF ⟨K, wd⟩ 1 (m__law_a_body A)) :=
  fn_ok T.F__law_a_body sc__law_a_body (fun cdv Ar outer s H E B kp hr tk => (tss_cons (ts_if (tb_w (tw_or (tb_not (tb_val (tr_isiA (tr_var 0) T.b_isinstance T.b_tuple (by decide +kernel)))) (tw_or (tb_eqA hr (tr_var 0) (tr_tup ta_nil)) (tw_or1 (tb_not (tb_val (tr_isiA (tr_ixA hr (tr_var 0) tr_int) T.b_isinstance T.b_str (by decide +kernel)))))))) (tss_one (ts_ret tr_bl)) tss_nil) (tss_cons (ts_par 1 2 kp (ta_cons (tr_ixA hr (tr_var 0) tr_int) (ta_cons (tr_lenA T.b_len (ta_cons (tr_var 0) ta_nil)) ta_nil)) (fun _ h => ps_par (by rfl) sc__law_a_body.nd rfl rfl (by decide) rfl rfl h (by rfl))) (tss_cons (ts_if (tb_eqA hr (tr_var 1) tr_str) (tss_cons (ts_if (tb_w (tw_or (tb_neA hr (tr_var 2) tr_int) (tw_or (tb_not (tb_val (tr_isiA (tr_ixA hr (tr_var 0) tr_int) T.b_isinstance T.b_str (by decide +kernel)))) (tw_or1 (tb_not (tb_val (tr_callV (ok__law_a_place T) (hr.mono (by omega)) T.m__law_a_place T.F__law_a_place.kp T.B__law_a_place tk (ta_cons (tr_ixA hr (tr_var 0) tr_int) ta_nil)))))))) (tss_one (ts_ret tr_bl)) tss_nil) (tss_one (ts_ret (tr_and (tr_callV (ok__law_whole T) (hr.mono (by omega)) T.m__law_whole T.F__law_whole.kp T.B__law_whole tk (ta_cons (tr_ixA hr (tr_var 0) tr_int) (ta_cons tr_int (ta_cons tr_int ta_nil)))) (tr_one (tr_callV (ok__law_a_content T) (hr.mono (by omega)) T.m__law_a_content T.F__law_a_content.kp T.B__law_a_content tk (ta_cons (tr_ixA hr (tr_var 0) tr_int) (ta_cons (tr_ixA hr (tr_var 0) tr_int) ta_nil)))))))) tss_nil) (tss_cons (ts_if (tb_eqA hr (tr_var 1) tr_str) (tss_one (ts_ret (tr_and (tr_eqA hr (tr_var 2) tr_int) (tr_and (tr_callV (ok__law_a_place T) (hr.mono (by omega)) T.m__law_a_place T.F__law_a_place.kp T.B__law_a_place tk (ta_cons (tr_ixA hr (tr_var 0) tr_int) ta_nil)) (tr_and (tr_callV (ok__law_a_place T) (hr.mono (by omega)) T.m__law_a_place T.F__law_a_place.kp T.B__law_a_place tk (ta_cons (tr_ixA hr (tr_var 0) tr_int) ta_nil)) (tr_one (tr_callV (ok__law_whole T) (hr.mono (by omega)) T.m__law_whole T.F__law_whole.kp T.B__law_whole tk (ta_cons (tr_ixA hr (tr_var 0) tr_int) (ta_cons tr_int (ta_cons tr_int ta_nil)))))))))) tss_nil) (tss_cons (ts_if (tb_eqA hr (tr_var 1) tr_str) (tss_one (ts_ret (tr_and (tr_eqA hr (tr_var 2) tr_int) (tr_one (tr_callV (ok__law_a_place T) (hr.mono (by omega)) T.m__law_a_place T.F__law_a_place.kp T.B__law_a_place tk (ta_cons (tr_ixA hr (tr_var 0) tr_int) ta_nil)))))) tss_nil) (tss_cons (ts_if (tb_inA hr (tr_var 1) (tr_lst true (ta_cons tr_str (ta_cons tr_str (ta_cons tr_str ta_nil))))) (tss_cons (ts_set 3 sc__law_a_body.nd (kp 3) (tr_ixA hr (tr_dct (tp_cons (key := Sum.inr ("wish" : Str)) pe_str tr_str (tp_cons (key := Sum.inr ("point" : Str)) pe_str tr_str (tp_cons (key := Sum.inr ("set" : Str)) pe_str tr_str tp_nil)))) (tr_var 1))) (tss_one (ts_ret (tr_and (tr_eqA hr (tr_var 2) tr_int) (tr_and (tr_callV (ok__law_a_place T) (hr.mono (by omega)) T.m__law_a_place T.F__law_a_place.kp T.B__law_a_place tk (ta_cons (tr_ixA hr (tr_var 0) tr_int) ta_nil)) (tr_one (tr_callV (ok__law_a_content T) (hr.mono (by omega)) T.m__law_a_content T.F__law_a_content.kp T.B__law_a_content tk (ta_cons (tr_var 3) (ta_cons (tr_ixA hr (tr_var 0) tr_int) ta_nil))))))))) tss_nil) (tss_one (ts_ret (tr_and (tr_inA hr (tr_var 1) (tr_lst true (ta_cons tr_str (ta_cons tr_str ta_nil)))) (tr_and (tr_eqA hr (tr_var 2) tr_int) (tr_one (tr_callV (ok__law_a_stamp T) (hr.mono (by omega)) T.m__law_a_stamp T.F__law_a_stamp.kp T.B__law_a_stamp tk (ta_cons (tr_ixA hr (tr_var 0) tr_int) ta_nil))))))))))))))
theorem ok__law_a_deed (T : TX P wd K mg A) : FnOk P wd K mg base (L2.CX P wd) 6 A.f__law_a_deed A.d__law_a_deed ["value"] (SpF ⟨K, wd⟩ 1 (m__law_a_deed A)) :=
  fn_ok T.F__law_a_deed sc__law_a_deed (fun cdv Ar outer s H E B kp hr tk => (tss_cons (ts_if (tb_w (tw_or (tb_not (tb_val (tr_isiA (tr_var 0) T.b_isinstance T.b_tuple (by decide +kernel)))) (tw_or (tb_neA hr (tr_lenA T.b_len (ta_cons (tr_var 0) ta_nil)) tr_int) (tw_or1 (tb_not (tb_val (tr_callV (ok__law_a_stamp T) (hr.mono (by omega)) T.m__law_a_stamp T.F__law_a_stamp.kp T.B__law_a_stamp tk (ta_cons (tr_ixA hr (tr_var 0) tr_int) ta_nil)))))))) (tss_one (ts_ret tr_bl)) tss_nil) (tss_cons (ts_if (tb_w (tw_or (tb_not (tb_val (tr_isiA (tr_ixA hr (tr_var 0) tr_int) T.b_isinstance T.b_tuple (by decide +kernel)))) (tw_or1 (tb_neA hr (tr_lenA T.b_len (ta_cons (tr_ixA hr (tr_var 0) tr_int) ta_nil)) tr_int)))) (tss_one (ts_ret tr_bl)) tss_nil) (tss_cons (ts_if (tb_neA hr (tr_lcV true 1 [("one", 1)] kp rfl sc__law_a_deed.nd (ti_any (tr_ixA hr (tr_var 0) tr_int)) (blk_of (N := nm__law_a_deed) (sc := defScope s__law_a_deed) rfl rfl (by decide +kernel)) rfl (by decide) (fun s H C cl fp => pg_name (i := 1) sc__law_a_deed.nd rfl (Or.inl rfl)) (fun s H C cl fp => (tt_one (tb_not (tb_val (tr_callV (ok__law_whole T) (hr.mono (by omega)) T.m__law_whole T.F__law_whole.kp T.B__law_whole L2.takes0 (ta_cons (tr_var 1) (ta_cons tr_int (ta_cons (tr_sub (tr_ixA hr (tr_ixA hr (tr_var 0) tr_int) tr_int) tr_int) ta_nil)))))))) (fun s H C cl fp => (tr_var 1))) (tr_lst true ta_nil)) (tss_one (ts_ret tr_bl)) tss_nil) (tss_one (ts_ret (tr_callV (ok__law_a_body T) (hr.mono (by omega)) T.m__law_a_body T.F__law_a_body.kp T.B__law_a_body tk (ta_cons (tr_ixA hr (tr_var 0) tr_int) ta_nil))))))))
theorem ok__law_value_right (T : TX P wd K mg A) (TB : TBs mg base A) : FnG P wd K mg base 10 A.f__law_value_right A.d__law_value_right ["value"] (m__law_value_right A) :=
  fn_okG T.F__law_value_right sc__law_value_right (fun cdv Ar outer s H E B hc kp hr hg hT tk => (tss_cons (ts_set 1 sc__law_value_right.nd (kp 1) (tr_lst true (ta_cons (tr_callV (ok_is_name T) (hr.mono (by omega)) T.m_is_name T.F_is_name.kp T.B_is_name tk (ta_cons (tr_var 0) ta_nil)) (ta_cons (tr_callV (ok_is_stamp T) (hr.mono (by omega)) T.m_is_stamp T.F_is_stamp.kp T.B_is_stamp tk (ta_cons (tr_var 0) ta_nil)) (ta_cons (tr_callV (ok_is_body T) (hr.mono (by omega)) T.m_is_body T.F_is_body.kp T.B_is_body tk (ta_cons (tr_var 0) ta_nil)) (ta_cons (tr_callV (ok_is_deed T) (hr.mono (by omega)) T.m_is_deed T.F_is_deed.kp T.B_is_deed tk (ta_cons (tr_var 0) ta_nil)) (ta_cons (tr_callV (ok_does_hold T) (hr.mono (by omega)) T.m_does_hold T.F_does_hold.kp T.B_does_hold tk (ta_cons (tr_var 0) ta_nil)) ta_nil))))))) (tss_cons (ts_set 2 sc__law_value_right.nd (kp 2) (tr_lst true (ta_cons (tr_callV (ok__law_a_name T) (hr.mono (by omega)) T.m__law_a_name T.F__law_a_name.kp T.B__law_a_name tk (ta_cons (tr_var 0) ta_nil)) (ta_cons (tr_callV (ok__law_a_stamp T) (hr.mono (by omega)) T.m__law_a_stamp T.F__law_a_stamp.kp T.B__law_a_stamp tk (ta_cons (tr_var 0) ta_nil)) (ta_cons (tr_callV (ok__law_a_body T) (hr.mono (by omega)) T.m__law_a_body T.F__law_a_body.kp T.B__law_a_body tk (ta_cons (tr_var 0) ta_nil)) (ta_cons (tr_callV (ok__law_a_deed T) (hr.mono (by omega)) T.m__law_a_deed T.F__law_a_deed.kp T.B__law_a_deed tk (ta_cons (tr_var 0) ta_nil)) ta_nil)))))) (tss_cons (ts_set 3 sc__law_value_right.nd (kp 3) (tr_and (tr_isiA (tr_var 0) T.b_isinstance T.b_str (by decide +kernel)) (tr_one (tr_inA hr (tr_var 0) (tr_lst true (ta_cons tr_str (ta_cons tr_str (ta_cons tr_str (ta_cons tr_str ta_nil))))))))) (tss_one (ts_ret (tr_eqA hr (tr_repr (by have q := room_u hr; exact q) hg T.b_repr (ta_cons (tr_var 1) ta_nil)) (tr_repr (by have q := room_u hr; exact q) hg T.b_repr (ta_cons (tr_add true (tr_var 2) (tr_lst true (ta_cons (tr_var 3) ta_nil))) ta_nil)))))))))
theorem okl__law_caught (T : TX P wd K mg A) {k : Nat} {act : Ed} {cdv : Value} {Ar : Around} {outer : List Env} {s : Shared} {H : Hp} {E : XK} {B : Bs} (kp : ∀ i, i ≠ 0 → Keeps B i) (hr : Room k (Ar.deeper (envOfC "_law_caught" (defScope s__law_caught) s.heap.objs.size A.f__law_caught cdv))) (hg : Ar.guards = some []) (tk : Takes (cxOf (L2.CX P wd) P wd K mg base nm__law_caught "_law_caught" (defScope s__law_caught) A.f__law_caught cdv Ar outer s H E) (WE0 E)) (ha : ∀ (W : WX) (pn : List (Addr × Obj)) (xe : Value → Shared → Prop) (p1 p2 : Pos), Takes ((cxOf (L2.CX P wd) P wd K mg base nm__law_caught "_law_caught" (defScope s__law_caught) A.f__law_caught cdv Ar outer s H E).tr pn xe) W → Tr ((cxOf (L2.CX P wd) P wd K mg base nm__law_caught "_law_caught" (defScope s__law_caught) A.f__law_caught cdv Ar outer s H E).tr pn xe) B W (.Call (.Name "call" p1) [] [] p2) act) : TrSs (cxOf (L2.CX P wd) P wd K mg base nm__law_caught "_law_caught" (defScope s__law_caught) A.f__law_caught cdv Ar outer s H E) B (WE0 E) (defBody s__law_caught) (B__law_caught A act) :=
  (tss_cons (ts_try sc__law_caught.nd tk (fun W pn xe tk hp => (tss_one (ts_drop (ha W pn xe _ _ tk)))) (.consAs (i := 1) (mt := mt_TooMany A) ⟨rfl, rfl, .inl T.c_TooMany⟩ T.M_TooMany (kp 1 (by decide)) rfl rfl (fun a oe c dd fs pn B2 e hz hf z => (mt_TooMany_no e).elim) (.consAs (i := 1) (mt := mt_NoBook A) ⟨rfl, rfl, .inl T.c_NoBook⟩ T.M_NoBook (kp 1 (by decide)) rfl rfl (fun a oe c dd fs pn B2 e hz hf z => (mt_NoBook_no e).elim) (.consAs (i := 1) (mt := mt_NotClosed A) ⟨rfl, rfl, .inl T.c_NotClosed⟩ T.M_NotClosed (kp 1 (by decide)) rfl rfl (fun a oe c dd fs pn B2 e hz hf z => (mt_NotClosed_no e).elim) (.consAs (i := 1) (mt := mt_Unseen A) ⟨rfl, rfl, .inl T.c_Unseen⟩ T.M_Unseen (kp 1 (by decide)) rfl rfl (fun a oe c dd fs pn B2 e hz hf z => (mt_Unseen_no e).elim) (.consAs (i := 1) (mt := mt_NoDeed A) ⟨rfl, rfl, .inl T.c_NoDeed⟩ T.M_NoDeed (kp 1 (by decide)) rfl rfl (fun a oe c dd fs pn B2 e hz hf z => by obtain rfl := mt_NoDeed_eq e; exact (tss_one (ts_ret (tr_lst true (ta_cons tr_str (ta_cons (tr_repr (by have q := room_u hr; exact q) hg T.b_repr (ta_cons (tr_xf z hz hf T.X_NoDeed T.S_NoDeed.no (pe_var rfl (Or.inl rfl))) ta_nil)) ta_nil)))))) (.consAs (i := 1) (mt := mt_NoBody A) ⟨rfl, rfl, .inl T.c_NoBody⟩ T.M_NoBody (kp 1 (by decide)) rfl rfl (fun a oe c dd fs pn B2 e hz hf z => (mt_NoBody_no e).elim) (.consAs (i := 1) (mt := mt_NoStamp A) ⟨rfl, rfl, .inl T.c_NoStamp⟩ T.M_NoStamp (kp 1 (by decide)) rfl rfl (fun a oe c dd fs pn B2 e hz hf z => (mt_NoStamp_no e).elim) (.consAs (i := 1) (mt := mt_NoStamps A) ⟨rfl, rfl, .inl T.c_NoStamps⟩ T.M_NoStamps (kp 1 (by decide)) rfl rfl (fun a oe c dd fs pn B2 e hz hf z => (mt_NoStamps_no e).elim) (.consAs (i := 1) (mt := mt_NoHand A) ⟨rfl, rfl, .inl T.c_NoHand⟩ T.M_NoHand (kp 1 (by decide)) rfl rfl (fun a oe c dd fs pn B2 e hz hf z => by obtain rfl := mt_NoHand_eq e; exact (tss_one (ts_ret (tr_lst true (ta_cons tr_str (ta_cons (tr_repr (by have q := room_u hr; exact q) hg T.b_repr (ta_cons (tr_xf z hz hf T.X_NoHand T.S_NoHand.no (pe_var rfl (Or.inl rfl))) ta_nil)) ta_nil)))))) (.consAs (i := 1) (mt := mt_NoHands A) ⟨rfl, rfl, .inl T.c_NoHands⟩ T.M_NoHands (kp 1 (by decide)) rfl rfl (fun a oe c dd fs pn B2 e hz hf z => (mt_NoHands_no e).elim) (.consAs (i := 1) (mt := mt_NoMenu A) ⟨rfl, rfl, .inl T.c_NoMenu⟩ T.M_NoMenu (kp 1 (by decide)) rfl rfl (fun a oe c dd fs pn B2 e hz hf z => (mt_NoMenu_no e).elim) (.consAs (i := 1) (mt := mt_NoPacket A) ⟨rfl, rfl, .inl T.c_NoPacket⟩ T.M_NoPacket (kp 1 (by decide)) rfl rfl (fun a oe c dd fs pn B2 e hz hf z => (mt_NoPacket_no e).elim) (.consAs (i := 1) (mt := mt_NothingBack A) ⟨rfl, rfl, .inl T.c_NothingBack⟩ T.M_NothingBack (kp 1 (by decide)) rfl rfl (fun a oe c dd fs pn B2 e hz hf z => (mt_NothingBack_no e).elim) (.consAs (i := 1) (mt := mt_NoBranches A) ⟨rfl, rfl, .inl T.c_NoBranches⟩ T.M_NoBranches (kp 1 (by decide)) rfl rfl (fun a oe c dd fs pn B2 e hz hf z => (mt_NoBranches_no e).elim) .nil))))))))))))))) (tss_one (ts_ret tr_non)))
theorem ok_check_deed (T : TX P wd K mg A) : FnOk P wd K mg base (L2.CX P wd) 10 A.f_check_deed A.d_check_deed ["deed"] (SpF ⟨K, wd⟩ 1 (m_check_deed A)) :=
  fn_ok T.F_check_deed sc_check_deed (fun cdv Ar outer s H E B kp hr tk => (tss_one (ts_if (tb_not (tb_val (tr_callV (ok_is_deed T) (hr.mono (by omega)) T.m_is_deed T.F_is_deed.kp T.B_is_deed tk (ta_cons (tr_var 0) ta_nil)))) (tss_one (ts_raise tk (fun ta ha => pmk_sup T.S_NoDeed T.I_NoDeed T.Y_NoDeed (ok_NoDeed___init__ T) (hr.mono (by omega)) T.B_NoDeed___init__ (passes_call tk (fun _ _ _ _ h => h.elim)) rfl T.c_NoDeed ha) (tr_var 0))) tss_nil)))
theorem ok_is_mark (T : TX P wd K mg A) : FnOk P wd K mg base (L2.CX P wd) 11 A.f_is_mark A.d_is_mark ["deed"] (SpF ⟨K, wd⟩ 1 (m_is_mark A)) :=
  fn_ok T.F_is_mark sc_is_mark (fun cdv Ar outer s H E B kp hr tk => (tss_cons (ts_drop (tr_callV (ok_check_deed T) (hr.mono (by omega)) T.m_check_deed T.F_check_deed.kp T.B_check_deed tk (ta_cons (tr_var 0) ta_nil))) (tss_one (ts_ret (tr_inA hr (tr_ixA hr (tr_ixA hr (tr_var 0) tr_int) tr_int) (tr_gtup T.t_MARK_WORDS T.g_MARK_WORDS))))))
theorem ok_in_stamp_order (T : TX P wd K mg A) : FnOk P wd K mg base (L2.CX P wd) 1 A.f_in_stamp_order A.d_in_stamp_order ["some"] (SpF ⟨K, wd⟩ 1 (m_in_stamp_order A)) :=
  fn_ok T.F_in_stamp_order sc_in_stamp_order (fun cdv Ar outer s H E B kp hr tk => (tss_cons (ts_setNdcTV hr 1 [2, 3] [("time", 2), ("hand", 3)] kp rfl sc_in_stamp_order.nd rfl rfl (swD_true rfl rfl rfl rfl) (ti_any (tr_var 0)) (blk_of (N := nm_in_stamp_order) (sc := defScope s_in_stamp_order) rfl rfl (by decide +kernel)) rfl (by decide) (fun s H C cl fp => (pg_tup rfl (pgs_cons (pg_name (i := 2) sc_in_stamp_order.nd rfl (Or.inl rfl)) (pgs_cons (pg_name (i := 3) sc_in_stamp_order.nd rfl (Or.inl rfl)) pgs_nil)))) (fun s H C cl fp => tt_nil) (fun s H C cl fp => (tr_tup (ta_cons (tr_intc T.b_int (ta_cons (tr_var 2) ta_nil)) (ta_cons (tr_intc T.b_int (ta_cons (tr_var 3) ta_nil)) ta_nil)))) (fun s H C cl fp => tr_bl)) (tss_one (ts_ret (tr_sorted T.b_sorted (ta_cons (tr_var 1) ta_nil))))))
theorem ok_names_in (T : TX P wd K mg A) : FnOk P wd K mg base (L2.CX P wd) 1 A.f_names_in A.d_names_in ["body"] (SpF ⟨K, wd⟩ 1 (m_names_in A)) :=
  fn_ok T.F_names_in sc_names_in (fun cdv Ar outer s H E B kp hr tk => (tss_cons (ts_if (tb_eqA hr (tr_ixA hr (tr_var 0) tr_int) tr_str) (tss_one (ts_ret (tr_lst true (ta_cons (tr_ixA hr (tr_var 0) tr_int) (ta_cons (tr_if (tb_eqA hr (tr_ixA hr (tr_var 0) tr_int) tr_str) (tr_ixA hr (tr_var 0) tr_int) tr_non) ta_nil))))) tss_nil) (tss_cons (ts_if (tb_eqA hr (tr_ixA hr (tr_var 0) tr_int) tr_str) (tss_one (ts_ret (tr_lst true (ta_cons (tr_ixA hr (tr_var 0) tr_int) (ta_cons (tr_ixA hr (tr_var 0) tr_int) ta_nil))))) tss_nil) (tss_one (ts_ret (tr_lst true (ta_cons (tr_ixA hr (tr_var 0) tr_int) (ta_cons (tr_if (tb_eqA hr (tr_ixA hr (tr_var 0) tr_int) tr_str) (tr_ixA hr (tr_var 0) tr_int) tr_non) ta_nil))))))))
theorem ok_named_by (T : TX P wd K mg A) : FnOk P wd K mg base (L2.CX P wd) 11 A.f_named_by A.d_named_by ["deed"] (SpF ⟨K, wd⟩ 1 (m_named_by A)) :=
  fn_ok T.F_named_by sc_named_by (fun cdv Ar outer s H E B kp hr tk => (tss_cons (ts_drop (tr_callV (ok_check_deed T) (hr.mono (by omega)) T.m_check_deed T.F_check_deed.kp T.B_check_deed tk (ta_cons (tr_var 0) ta_nil))) (tss_one (ts_ret (tr_callV (ok_in_stamp_order T) (hr.mono (by omega)) T.m_in_stamp_order T.F_in_stamp_order.kp T.B_in_stamp_order tk (ta_cons (tr_lcV true 1 [("name", 1)] kp rfl sc_named_by.nd (ti_any (tr_callV (ok_names_in T) (hr.mono (by omega)) T.m_names_in T.F_names_in.kp T.B_names_in tk (ta_cons (tr_ixA hr (tr_var 0) tr_int) ta_nil))) (blk_of (N := nm_named_by) (sc := defScope s_named_by) rfl rfl (by decide +kernel)) rfl (by decide) (fun s H C cl fp => pg_name (i := 1) sc_named_by.nd rfl (Or.inl rfl)) (fun s H C cl fp => (tt_one (tb_w (tw_and (tb_isn (tr_var 1) tr_non) (tw_and1 (tb_neA hr (tr_var 1) (tr_gtup T.t_ROOT T.g_ROOT))))))) (fun s H C cl fp => (tr_var 1))) ta_nil))))))
theorem ok__law_stamps (T : TX P wd K mg A) : FnOk P wd K mg base (L2.CX P wd) 1 A.f__law_stamps A.d__law_stamps ["some"] (SpF ⟨K, wd⟩ 1 (m__law_stamps A)) :=
  fn_ok T.F__law_stamps sc__law_stamps (fun cdv Ar outer s H E B kp hr tk => (tss_one (ts_ret (tr_sorted T.b_sorted (ta_cons (tr_dictP hr T.b_dict (ta_cons (tr_lcV true 1 [("one", 1)] kp rfl sc__law_stamps.nd (ti_any (tr_var 0)) (blk_of (N := nm__law_stamps) (sc := defScope s__law_stamps) rfl rfl (by decide +kernel)) rfl (by decide) (fun s H C cl fp => pg_name (i := 1) sc__law_stamps.nd rfl (Or.inl rfl)) (fun s H C cl fp => tt_nil) (fun s H C cl fp => (tr_tup (ta_cons (tr_tup (ta_cons (tr_intc T.b_int (ta_cons (tr_ixA hr (tr_var 1) tr_int) ta_nil)) (ta_cons (tr_intc T.b_int (ta_cons (tr_ixA hr (tr_var 1) tr_int) ta_nil)) ta_nil))) (ta_cons tr_int ta_nil))))) ta_nil)) ta_nil)))))
theorem ok__law_names (T : TX P wd K mg A) : FnOk P wd K mg base (L2.CX P wd) 2 A.f__law_names A.d__law_names ["deed"] (SpF ⟨K, wd⟩ 1 (m__law_names A)) :=
  fn_ok T.F__law_names sc__law_names (fun cdv Ar outer s H E B kp hr tk => (tss_cons (ts_set 1 sc__law_names.nd (kp 1) (tr_ixA hr (tr_var 0) tr_int)) (tss_cons (ts_set 2 sc__law_names.nd (kp 2) (tr_if (tb_neA hr (tr_ixA hr (tr_var 1) tr_int) tr_str) (tr_lst true (ta_cons (tr_ixA hr (tr_var 1) tr_int) ta_nil)) (tr_lst true (ta_cons (tr_ixA hr (tr_var 1) tr_int) (ta_cons (tr_if (tb_eqA hr (tr_ixA hr (tr_var 1) tr_int) tr_str) (tr_ixA hr (tr_var 1) tr_int) tr_non) ta_nil))))) (tss_cons (ts_if (tb_inA hr (tr_ixA hr (tr_var 1) tr_int) (tr_lst true (ta_cons tr_str (ta_cons tr_str ta_nil)))) (tss_one (ts_set 2 sc__law_names.nd (kp 2) (tr_lst true (ta_cons (tr_ixA hr (tr_var 1) tr_int) (ta_cons (tr_ixA hr (tr_var 1) tr_int) ta_nil))))) tss_nil) (tss_one (ts_ret (tr_callV (ok__law_stamps T) (hr.mono (by omega)) T.m__law_stamps T.F__law_stamps.kp T.B__law_stamps tk (ta_cons (tr_lcV true 3 [("one", 3)] kp rfl sc__law_names.nd (ti_any (tr_var 2)) (blk_of (N := nm__law_names) (sc := defScope s__law_names) rfl rfl (by decide +kernel)) rfl (by decide) (fun s H C cl fp => pg_name (i := 3) sc__law_names.nd rfl (Or.inl rfl)) (fun s H C cl fp => (tt_one (tb_w (tw_and (tb_isn (tr_var 3) tr_non) (tw_and1 (tb_neA hr (tr_var 3) (tr_tup (ta_cons tr_int (ta_cons tr_int ta_nil))))))))) (fun s H C cl fp => (tr_var 3))) ta_nil))))))))
theorem ok_check_hand (T : TX P wd K mg A) : FnOk P wd K mg base (L2.CX P wd) 3 A.f_check_hand A.d_check_hand ["hand"] (SpF ⟨K, wd⟩ 1 (m_check_hand A)) :=
  fn_ok T.F_check_hand sc_check_hand (fun cdv Ar outer s H E B kp hr tk => (tss_one (ts_if (tb_not (tb_val (tr_callV (ok_is_number T) (hr.mono (by omega)) T.m_is_number T.F_is_number.kp T.B_is_number tk (ta_cons (tr_var 0) (ta_cons tr_int (ta_cons (tr_gint T.g_MOST_HAND.choose_spec) ta_nil)))))) (tss_one (ts_raise tk (fun ta ha => pmk_sup T.S_NoHand T.I_NoHand T.Y_NoHand (ok_NoHand___init__ T) (hr.mono (by omega)) T.B_NoHand___init__ (passes_call tk (fun _ _ _ _ h => h.elim)) rfl T.c_NoHand ha) (tr_var 0))) tss_nil)))
theorem ok_time_seen (T : TX P wd K mg A) : FnOk P wd K mg base (L2.CX P wd) 11 A.f_time_seen A.d_time_seen ["deed", "hand"] (SpF ⟨K, wd⟩ 2 (m_time_seen A)) :=
  fn_ok T.F_time_seen sc_time_seen (fun cdv Ar outer s H E B kp hr tk => (tss_cons (ts_drop (tr_callV (ok_check_deed T) (hr.mono (by omega)) T.m_check_deed T.F_check_deed.kp T.B_check_deed tk (ta_cons (tr_var 0) ta_nil))) (tss_cons (ts_drop (tr_callV (ok_check_hand T) (hr.mono (by omega)) T.m_check_hand T.F_check_hand.kp T.B_check_hand tk (ta_cons (tr_var 1) ta_nil))) (tss_one (ts_ret (tr_ixA hr (tr_ixA hr (tr_var 0) tr_int) (tr_var 1)))))))
theorem ok__law_deed_right (T : TX P wd K mg A) (TB : TBs mg base A) : FnG P wd K mg base 14 A.f__law_deed_right A.d__law_deed_right ["source", "deed"] (m__law_deed_right A) :=
  fn_okG T.F__law_deed_right sc__law_deed_right (fun cdv Ar outer s H E B hc kp hr hg hT tk => (tss_cons (ts_if (tb_w (tw_or (tb_neA hr (tr_callV (ok_is_mark T) (hr.mono (by omega)) T.m_is_mark T.F_is_mark.kp T.B_is_mark tk (ta_cons (tr_var 1) ta_nil)) (tr_inA hr (tr_ixA hr (tr_ixA hr (tr_var 1) tr_int) tr_int) (tr_lst true (ta_cons tr_str (ta_cons tr_str ta_nil))))) (tw_or1 (tb_neA hr (tr_callV (ok_named_by T) (hr.mono (by omega)) T.m_named_by T.F_named_by.kp T.B_named_by tk (ta_cons (tr_var 1) ta_nil)) (tr_callV (ok__law_names T) (hr.mono (by omega)) T.m__law_names T.F__law_names.kp T.B__law_names tk (ta_cons (tr_var 1) ta_nil)))))) (tss_one (ts_ret tr_bl)) tss_nil) (tss_cons (ts_if (tb_neA hr (tr_lcV true 3 [("hand", 3)] kp rfl sc__law_deed_right.nd (ti_rng1 T.b_range (ta_cons tr_int ta_nil)) (blk_of (N := nm__law_deed_right) (sc := defScope s__law_deed_right) rfl rfl (by decide +kernel)) rfl (by decide) (fun s H C cl fp => pg_name (i := 3) sc__law_deed_right.nd rfl (Or.inl rfl)) (fun s H C cl fp => tt_nil) (fun s H C cl fp => (tr_callV (ok_time_seen T) (hr.mono (by omega)) T.m_time_seen T.F_time_seen.kp T.B_time_seen L2.takes0 (ta_cons (tr_var 1) (ta_cons (tr_var 3) ta_nil))))) (tr_listc true T.b_list (ta_cons (tr_ixA hr (tr_var 1) tr_int) ta_nil))) (tss_one (ts_ret tr_bl)) tss_nil) (tss_cons (ts_set 2 sc__law_deed_right.nd (kp 2) (tr_callV (ok__law_one T) (hr.mono (by omega)) T.m__law_one T.F__law_one.kp T.B__law_one tk (ta_cons (tr_var 0) (ta_cons (tr_lst true (ta_cons (tr_neg tr_int) (ta_cons tr_int (ta_cons tr_non (ta_cons tr_bl (ta_cons tr_str ta_nil)))))) ta_nil)))) (tss_one (ts_ret (tr_eqA hr (tr_lamC T.F__law_caught sc__law_caught T.B__law_caught T.m__law_caught (fun act cdv2 Ar2 outer2 s2 H2 E2 B2 kp2 hr2 heq tk2 ha2 => okl__law_caught T kp2 hr2 (by rw [heq]; exact hg) tk2 ha2) TB.t__law_deed_right (hc.symm.trans T.cd__law_deed_right) hT T.n__law_deed_right T.u__law_deed_right tk (k := 11) (hr.mono (by omega)) (lamS_of (sc0 := defScope s__law_deed_right) rfl (by decide +kernel)) rfl (fun _ _ _ _ _ => rfl) (fun Ar2 outer2 s2 H2 E2 f2 c2 hr tk => (tr_callV (ok_time_seen T) (hr.mono (by omega)) T.m_time_seen T.F_time_seen.kp T.B_time_seen tk (ta_cons (tr_var 1) (ta_cons (tr_var 2) ta_nil))))) (tr_lst true (ta_cons tr_str (ta_cons (tr_repr (by have q := room_u hr; exact q) hg T.b_repr (ta_cons (tr_var 2) ta_nil)) ta_nil))))))))))
theorem ok_law (T : TX P wd K mg A) (TB : TBs mg base A) : FnG P wd K mg base 15 A.f_law A.d_law ["script"] (m_law A) :=
  fn_okG T.F_law sc_law (fun cdv Ar outer s H E B hc kp hr hg hT tk => (tss_cons (ts_for (passes_of rfl) (ti_any (tr_callV (ok__law_rounds T) (hr.mono (by omega)) T.m__law_rounds T.F__law_rounds.kp T.B__law_rounds tk (ta_cons (tr_var 0) ta_nil))) (tg_name 1 sc_law.nd (kp 1)) (tss_cons (ts_set 2 sc_law.nd (kp 2) (tr_callV (ok__law_pool T) (hr.mono (by omega)) T.m__law_pool T.F__law_pool.kp T.B__law_pool tk (ta_cons (tr_var 0) (ta_cons (tr_var 1) ta_nil)))) (tss_one (ts_for (passes_of rfl) (ti_any (tr_ixA hr (tr_callV (ok__law_drawn T) (hr.mono (by omega)) T.m__law_drawn T.F__law_drawn.kp T.B__law_drawn tk (ta_cons (tr_var 2) (ta_cons tr_int (ta_cons tr_int ta_nil)))) tr_int)) (tg_name 3 sc_law.nd (kp 3)) (tss_cons (ts_if (tb_w (tw_or (tb_not (tb_val (tr_callG (ok__law_value_right T TB) (hr.mono (by omega)) hg hT T.m__law_value_right T.F__law_value_right.kp T.B__law_value_right tk (ta_cons (tr_var 3) ta_nil)))) (tw_or (tb_not (tb_val (tr_callG (ok__law_value_right T TB) (hr.mono (by omega)) hg hT T.m__law_value_right T.F__law_value_right.kp T.B__law_value_right tk (ta_cons (tr_ixA hr (tr_var 3) tr_int) ta_nil)))) (tw_or1 (tb_not (tb_val (tr_callG (ok__law_deed_right T TB) (hr.mono (by omega)) hg hT T.m__law_deed_right T.F__law_deed_right.kp T.B__law_deed_right tk (ta_cons (tr_var 2) (ta_cons (tr_var 3) ta_nil))))))))) (tss_one (ts_ret tr_bl)) tss_nil) (tss_cons (ts_set 4 sc_law.nd (kp 4) (tr_lst false (ta_cons (tr_callV (ok__law_bent T) (hr.mono (by omega)) T.m__law_bent T.F__law_bent.kp T.B__law_bent tk (ta_cons (tr_var 2) (ta_cons (tr_var 3) ta_nil))) (ta_cons (tr_callV (ok__law_bent T) (hr.mono (by omega)) T.m__law_bent T.F__law_bent.kp T.B__law_bent tk (ta_cons (tr_var 2) (ta_cons (tr_ixA hr (tr_var 3) tr_int) ta_nil))) ta_nil)))) (tss_cons (ts_drop (tr_append (tr_var 4) (tr_tup (ta_cons (tr_ixA hr (tr_var 3) tr_int) (ta_cons (tr_ixA hr (tr_var 3) tr_int) (ta_cons (tr_callV (ok__law_bent T) (hr.mono (by omega)) T.m__law_bent T.F__law_bent.kp T.B__law_bent tk (ta_cons (tr_var 2) (ta_cons (tr_ixA hr (tr_var 3) tr_int) ta_nil))) ta_nil)))))) (tss_one (ts_for (passes_of rfl) (ti_any (tr_add true (tr_var 4) (tr_lst true (ta_cons (tr_tup (ta_cons (tr_ixA hr (tr_var 3) tr_int) (ta_cons (tr_callV (ok__law_bent T) (hr.mono (by omega)) T.m__law_bent T.F__law_bent.kp T.B__law_bent tk (ta_cons (tr_var 2) (ta_cons (tr_ixA hr (tr_var 3) tr_int) ta_nil))) (ta_cons (tr_ixA hr (tr_var 3) tr_int) ta_nil)))) (ta_cons (tr_listc true T.b_list (ta_cons (tr_var 3) ta_nil)) (ta_cons (tr_callV (ok__law_odd T) (hr.mono (by omega)) T.m__law_odd T.F__law_odd.kp T.B__law_odd tk (ta_cons (tr_var 2) ta_nil)) ta_nil)))))) (tg_name 5 sc_law.nd (kp 5)) (tss_cons (ts_if (tb_not (tb_val (tr_callG (ok__law_value_right T TB) (hr.mono (by omega)) hg hT T.m__law_value_right T.F__law_value_right.kp T.B__law_value_right tk (ta_cons (tr_var 5) ta_nil)))) (tss_one (ts_ret tr_bl)) tss_nil) (tss_one (ts_if (tb_not (tb_val (tr_callV (ok__law_a_deed T) (hr.mono (by omega)) T.m__law_a_deed T.F__law_a_deed.kp T.B__law_a_deed tk (ta_cons (tr_var 5) ta_nil)))) (tss_cons (ts_if (tb_neA hr (tr_lamC T.F__law_caught sc__law_caught T.B__law_caught T.m__law_caught (fun act cdv2 Ar2 outer2 s2 H2 E2 B2 kp2 hr2 heq tk2 ha2 => okl__law_caught T kp2 hr2 (by rw [heq]; exact hg) tk2 ha2) TB.t_law (hc.symm.trans T.cd_law) hT T.n_law T.u_law tk (k := 11) (hr.mono (by omega)) (lamS_of (sc0 := defScope s_law) rfl (by decide +kernel)) rfl (fun _ _ _ _ _ => rfl) (fun Ar2 outer2 s2 H2 E2 f2 c2 hr tk => (tr_callV (ok_is_mark T) (hr.mono (by omega)) T.m_is_mark T.F_is_mark.kp T.B_is_mark tk (ta_cons (tr_var 5) ta_nil)))) (tr_lst true (ta_cons tr_str (ta_cons (tr_repr (by have q := room_u hr; exact q) hg T.b_repr (ta_cons (tr_var 5) ta_nil)) ta_nil)))) (tss_one (ts_ret tr_bl)) tss_nil) (tss_one (ts_if (tb_neA hr (tr_lamC T.F__law_caught sc__law_caught T.B__law_caught T.m__law_caught (fun act cdv2 Ar2 outer2 s2 H2 E2 B2 kp2 hr2 heq tk2 ha2 => okl__law_caught T kp2 hr2 (by rw [heq]; exact hg) tk2 ha2) TB.t_law (hc.symm.trans T.cd_law) hT T.n_law T.u_law tk (k := 11) (hr.mono (by omega)) (lamS_of (sc0 := defScope s_law) rfl (by decide +kernel)) rfl (fun _ _ _ _ _ => rfl) (fun Ar2 outer2 s2 H2 E2 f2 c2 hr tk => (tr_callV (ok_time_seen T) (hr.mono (by omega)) T.m_time_seen T.F_time_seen.kp T.B_time_seen tk (ta_cons (tr_var 5) (ta_cons tr_non ta_nil))))) (tr_lst true (ta_cons tr_str (ta_cons (tr_repr (by have q := room_u hr; exact q) hg T.b_repr (ta_cons (tr_var 5) ta_nil)) ta_nil)))) (tss_one (ts_ret tr_bl)) tss_nil))) tss_nil)))))))))))) (tss_one (ts_ret tr_bl))))
end
end K01
end

section
set_option Elab.async false
set_option linter.all false
set_option maxRecDepth 100000
set_option maxHeartbeats 4000000
namespace K01
open PySem PySem.Spec PyProof.Rows L2 Fx
theorem exm_of {K : PySem.W.Frag} {c C : Addr} {cd : ClassData} {b : Bool} (h1 : PySem.W.subIn K (.ref C) (.type "BaseException") = some true) (h2 : PySem.W.clsIn K C = some cd) (h3 : PySem.W.typeIn K (.ref C) = some (.type "type")) (h4 : PySem.W.subIn K (.ref c) (.ref C) = some b) : PySem.W.exmOne K (.ref c) (.ref C) = some b := by
  have e : PySem.W.exmOne K (.ref c) (.ref C) = if (PySem.W.subIn K (.ref C) (.type "BaseException") == some true) = true then (if ((PySem.W.clsIn K C).isSome && PySem.W.typeIn K (.ref C) == some (.type "type")) = true then PySem.W.subIn K (.ref c) (.ref C) else none) else none := rfl
  rw [e, h1, h2, h3, h4]
  rfl
theorem all_mk {l : PySem.W.OpenLaw} {w : World} {K : PySem.W.Frag} {h : Heap} {mg : Str → Option Value} {fa : Addr} {C_NoDeed C_NoHand C_NoBook C_NotClosed C_Unseen C_NoBody C_NoStamp C_NoStamps C_NoMenu C_NoPacket C_NothingBack C_NoHands C_NoBranches C_TooMany f__law_rounds f__law_pool f__law_world f__law_take f__law_one f__law_do f__law_learn f__law_content f__law_holders f__law_made_body f__law_body f__law_seen_deeds f__law_step f__law_drawn f__law_odd f__law_bent f_is_name f_is_tuple_of f_is_whole f_is_number f_is_stamp f_is_place_name f_is_binder f_is_content f_is_make f_is_placing_body f_is_content_body f_is_body f_is_seen f_is_deed f_does_hold f__law_a_name f__law_whole f__law_a_stamp f__law_a_place f__law_a_content f__law_a_body f__law_a_deed f__law_value_right f__law_caught f_NoDeed___init__ cda_NoDeed___init__ cc_NoDeed___init__ f_check_deed f_is_mark f_in_stamp_order f_names_in f_named_by f__law_stamps f__law_names f_NoHand___init__ cda_NoHand___init__ cc_NoHand___init__ f_check_hand f_time_seen f__law_deed_right ca__law_deed_right P__law_deed_right f_law ca_law P_law g_HOLDERS g_MARK_WORDS g_ROOT : Addr}
    {oc__law_rounds kV__law_rounds dc__law_rounds pm__law_rounds ct__law_rounds cd__law_rounds oc__law_pool kV__law_pool dc__law_pool pm__law_pool ct__law_pool cd__law_pool oc__law_world kV__law_world dc__law_world pm__law_world ct__law_world cd__law_world oc__law_take kV__law_take dc__law_take pm__law_take ct__law_take cd__law_take oc__law_one kV__law_one dc__law_one pm__law_one ct__law_one cd__law_one oc__law_do kV__law_do dc__law_do pm__law_do ct__law_do cd__law_do oc__law_learn kV__law_learn dc__law_learn pm__law_learn ct__law_learn cd__law_learn oc__law_content kV__law_content dc__law_content pm__law_content ct__law_content cd__law_content oc__law_holders kV__law_holders dc__law_holders pm__law_holders ct__law_holders cd__law_holders oc__law_made_body kV__law_made_body dc__law_made_body pm__law_made_body ct__law_made_body cd__law_made_body oc__law_body kV__law_body dc__law_body pm__law_body ct__law_body cd__law_body oc__law_seen_deeds kV__law_seen_deeds dc__law_seen_deeds pm__law_seen_deeds ct__law_seen_deeds cd__law_seen_deeds oc__law_step kV__law_step dc__law_step pm__law_step ct__law_step cd__law_step oc__law_drawn kV__law_drawn dc__law_drawn pm__law_drawn ct__law_drawn cd__law_drawn oc__law_odd kV__law_odd dc__law_odd pm__law_odd ct__law_odd cd__law_odd oc__law_bent kV__law_bent dc__law_bent pm__law_bent ct__law_bent cd__law_bent oc_is_name kV_is_name dc_is_name pm_is_name ct_is_name cd_is_name oc_is_tuple_of kV_is_tuple_of dc_is_tuple_of pm_is_tuple_of ct_is_tuple_of cd_is_tuple_of oc_is_whole kV_is_whole dc_is_whole pm_is_whole ct_is_whole cd_is_whole oc_is_number kV_is_number dc_is_number pm_is_number ct_is_number cd_is_number oc_is_stamp kV_is_stamp dc_is_stamp pm_is_stamp ct_is_stamp cd_is_stamp oc_is_place_name kV_is_place_name dc_is_place_name pm_is_place_name ct_is_place_name cd_is_place_name oc_is_binder kV_is_binder dc_is_binder pm_is_binder ct_is_binder cd_is_binder oc_is_content kV_is_content dc_is_content pm_is_content ct_is_content cd_is_content oc_is_make kV_is_make dc_is_make pm_is_make ct_is_make cd_is_make oc_is_placing_body kV_is_placing_body dc_is_placing_body pm_is_placing_body ct_is_placing_body cd_is_placing_body oc_is_content_body kV_is_content_body dc_is_content_body pm_is_content_body ct_is_content_body cd_is_content_body oc_is_body kV_is_body dc_is_body pm_is_body ct_is_body cd_is_body oc_is_seen kV_is_seen dc_is_seen pm_is_seen ct_is_seen cd_is_seen oc_is_deed kV_is_deed dc_is_deed pm_is_deed ct_is_deed cd_is_deed oc_does_hold kV_does_hold dc_does_hold pm_does_hold ct_does_hold cd_does_hold oc__law_a_name kV__law_a_name dc__law_a_name pm__law_a_name ct__law_a_name cd__law_a_name oc__law_whole kV__law_whole dc__law_whole pm__law_whole ct__law_whole cd__law_whole oc__law_a_stamp kV__law_a_stamp dc__law_a_stamp pm__law_a_stamp ct__law_a_stamp cd__law_a_stamp oc__law_a_place kV__law_a_place dc__law_a_place pm__law_a_place ct__law_a_place cd__law_a_place oc__law_a_content kV__law_a_content dc__law_a_content pm__law_a_content ct__law_a_content cd__law_a_content oc__law_a_body kV__law_a_body dc__law_a_body pm__law_a_body ct__law_a_body cd__law_a_body oc__law_a_deed kV__law_a_deed dc__law_a_deed pm__law_a_deed ct__law_a_deed cd__law_a_deed oc__law_value_right kV__law_value_right dc__law_value_right pm__law_value_right ct__law_value_right cd__law_value_right oc__law_caught kV__law_caught dc__law_caught pm__law_caught ct__law_caught cd__law_caught oc_NoDeed___init__ kV_NoDeed___init__ dc_NoDeed___init__ pm_NoDeed___init__ ct_NoDeed___init__ oc_check_deed kV_check_deed dc_check_deed pm_check_deed ct_check_deed cd_check_deed oc_is_mark kV_is_mark dc_is_mark pm_is_mark ct_is_mark cd_is_mark oc_in_stamp_order kV_in_stamp_order dc_in_stamp_order pm_in_stamp_order ct_in_stamp_order cd_in_stamp_order oc_names_in kV_names_in dc_names_in pm_names_in ct_names_in cd_names_in oc_named_by kV_named_by dc_named_by pm_named_by ct_named_by cd_named_by oc__law_stamps kV__law_stamps dc__law_stamps pm__law_stamps ct__law_stamps cd__law_stamps oc__law_names kV__law_names dc__law_names pm__law_names ct__law_names cd__law_names oc_NoHand___init__ kV_NoHand___init__ dc_NoHand___init__ pm_NoHand___init__ ct_NoHand___init__ oc_check_hand kV_check_hand dc_check_hand pm_check_hand ct_check_hand cd_check_hand oc_time_seen kV_time_seen dc_time_seen pm_time_seen ct_time_seen cd_time_seen oc__law_deed_right kV__law_deed_right dc__law_deed_right pm__law_deed_right ct__law_deed_right oc_law kV_law dc_law pm_law ct_law : Value} {od__law_rounds an__law_rounds od__law_pool an__law_pool od__law_world an__law_world od__law_take an__law_take od__law_one an__law_one od__law_do an__law_do od__law_learn an__law_learn od__law_content an__law_content od__law_holders an__law_holders od__law_made_body an__law_made_body od__law_body an__law_body od__law_seen_deeds an__law_seen_deeds od__law_step an__law_step od__law_drawn an__law_drawn od__law_odd an__law_odd od__law_bent an__law_bent od_is_name an_is_name od_is_tuple_of an_is_tuple_of od_is_whole an_is_whole od_is_number an_is_number od_is_stamp an_is_stamp od_is_place_name an_is_place_name od_is_binder an_is_binder od_is_content an_is_content od_is_make an_is_make od_is_placing_body an_is_placing_body od_is_content_body an_is_content_body od_is_body an_is_body od_is_seen an_is_seen od_is_deed an_is_deed od_does_hold an_does_hold od__law_a_name an__law_a_name od__law_whole an__law_whole od__law_a_stamp an__law_a_stamp od__law_a_place an__law_a_place od__law_a_content an__law_a_content od__law_a_body an__law_a_body od__law_a_deed an__law_a_deed od__law_value_right an__law_value_right od__law_caught an__law_caught od_NoDeed___init__ an_NoDeed___init__ od_check_deed an_check_deed od_is_mark an_is_mark od_in_stamp_order an_in_stamp_order od_names_in an_names_in od_named_by an_named_by od__law_stamps an__law_stamps od__law_names an__law_names od_NoHand___init__ an_NoHand___init__ od_check_hand an_check_hand od_time_seen an_time_seen od__law_deed_right an__law_deed_right od_law an_law : Option Addr} {sl__law_rounds sl__law_pool sl__law_world sl__law_take sl__law_one sl__law_do sl__law_learn sl__law_content sl__law_holders sl__law_made_body sl__law_body sl__law_seen_deeds sl__law_step sl__law_drawn sl__law_odd sl__law_bent sl_is_name sl_is_tuple_of sl_is_whole sl_is_number sl_is_stamp sl_is_place_name sl_is_binder sl_is_content sl_is_make sl_is_placing_body sl_is_content_body sl_is_body sl_is_seen sl_is_deed sl_does_hold sl__law_a_name sl__law_whole sl__law_a_stamp sl__law_a_place sl__law_a_content sl__law_a_body sl__law_a_deed sl__law_value_right sl__law_caught sl_NoDeed___init__ sl_check_deed sl_is_mark sl_in_stamp_order sl_names_in sl_named_by sl__law_stamps sl__law_names sl_NoHand___init__ sl_check_hand sl_time_seen sl__law_deed_right sl_law : Array (Option Value)}
    {co__law_deed_right : Option Addr} {cv__law_deed_right : Array Value} {cs__law_deed_right : Array (Option Value)} {co_law : Option Addr} {cv_law : Array Value} {cs_law : Array (Option Value)} {tk_HOLDERS_0 : Tok} {tk_HOLDERS_1 : Tok} {tk_HOLDERS_2 : Tok} {tk_HOLDERS_3 : Tok} {td_HOLDERS : Option Addr} {tn_HOLDERS : Nat} {ts_HOLDERS : Array (Option Value)} {tk_MARK_WORDS_0 : Tok} {tk_MARK_WORDS_1 : Tok} {td_MARK_WORDS : Option Addr} {tn_MARK_WORDS : Nat} {ts_MARK_WORDS : Array (Option Value)} {tk_MOST_HAND : Tok} {tk_MOST_KEY : Tok} {tk_MOST_TIME : Tok} {tk_MOST_VALUE : Tok} {tk_NAME_LETTERS : Tok} {tk_ROOT_0 : Tok} {tk_ROOT_1 : Tok} {td_ROOT : Option Addr} {tn_ROOT : Nat} {ts_ROOT : Array (Option Value)} {nm_NoDeed q_NoDeed : Str} {ns_NoDeed : Addr} {bs_NoDeed bm_NoDeed sub_NoDeed : List Value} {sn_NoDeed : List Str} {ab_NoDeed : Bool} {col_NoDeed : Option Bool} {dd_NoDeed : Option Addr} {z0_NoDeed z1_NoDeed z2_NoDeed z3_NoDeed z5_NoDeed : Option Value} {vs_NoDeed : Array Value} {file_NoDeed : Str} {tf_NoDeed : Tok} {ccl_NoDeed cl_NoDeed : Value} {cdd_NoDeed cld_NoDeed : Option Addr} {ccs_NoDeed csl_NoDeed : Array (Option Value)} {cdD_NoDeed : ClassData} {nm_NoHand q_NoHand : Str} {ns_NoHand : Addr} {bs_NoHand bm_NoHand sub_NoHand : List Value} {sn_NoHand : List Str} {ab_NoHand : Bool} {col_NoHand : Option Bool} {dd_NoHand : Option Addr} {z0_NoHand z1_NoHand z2_NoHand z3_NoHand z5_NoHand : Option Value} {vs_NoHand : Array Value} {file_NoHand : Str} {tf_NoHand : Tok} {ccl_NoHand cl_NoHand : Value} {cdd_NoHand cld_NoHand : Option Addr} {ccs_NoHand csl_NoHand : Array (Option Value)} {cdD_NoHand : ClassData} {cdD_NoBook : ClassData} {cdD_NotClosed : ClassData} {cdD_Unseen : ClassData} {cdD_NoBody : ClassData} {cdD_NoStamp : ClassData} {cdD_NoStamps : ClassData} {cdD_NoMenu : ClassData} {cdD_NoPacket : ClassData} {cdD_NothingBack : ClassData} {cdD_NoHands : ClassData} {cdD_NoBranches : ClassData} {cdD_TooMany : ClassData}
    (X : K.In h) (G : h.Ns mainGlobals mg) (hfa : mg "law" = some (.ref fa))
    (aC_NoDeed : PySem.W.nsIn K mainGlobals "NoDeed" = some (some (.ref C_NoDeed)))
    (aC_NoHand : PySem.W.nsIn K mainGlobals "NoHand" = some (some (.ref C_NoHand)))
    (aC_NoBook : PySem.W.nsIn K mainGlobals "NoBook" = some (some (.ref C_NoBook)))
    (aC_NotClosed : PySem.W.nsIn K mainGlobals "NotClosed" = some (some (.ref C_NotClosed)))
    (aC_Unseen : PySem.W.nsIn K mainGlobals "Unseen" = some (some (.ref C_Unseen)))
    (aC_NoBody : PySem.W.nsIn K mainGlobals "NoBody" = some (some (.ref C_NoBody)))
    (aC_NoStamp : PySem.W.nsIn K mainGlobals "NoStamp" = some (some (.ref C_NoStamp)))
    (aC_NoStamps : PySem.W.nsIn K mainGlobals "NoStamps" = some (some (.ref C_NoStamps)))
    (aC_NoMenu : PySem.W.nsIn K mainGlobals "NoMenu" = some (some (.ref C_NoMenu)))
    (aC_NoPacket : PySem.W.nsIn K mainGlobals "NoPacket" = some (some (.ref C_NoPacket)))
    (aC_NothingBack : PySem.W.nsIn K mainGlobals "NothingBack" = some (some (.ref C_NothingBack)))
    (aC_NoHands : PySem.W.nsIn K mainGlobals "NoHands" = some (some (.ref C_NoHands)))
    (aC_NoBranches : PySem.W.nsIn K mainGlobals "NoBranches" = some (some (.ref C_NoBranches)))
    (aC_TooMany : PySem.W.nsIn K mainGlobals "TooMany" = some (some (.ref C_TooMany)))
    (a__law_rounds : PySem.W.nsIn K mainGlobals "_law_rounds" = some (some (.ref f__law_rounds)))
    (l__law_rounds : K.lookup f__law_rounds = some ⟨oc__law_rounds, od__law_rounds, .func (PySem.W.fnOf "_law_rounds" "_law_rounds" (defArgs s__law_rounds) (defBody s__law_rounds) (defScope s__law_rounds) .none kV__law_rounds dc__law_rounds pm__law_rounds an__law_rounds cd__law_rounds ct__law_rounds), sl__law_rounds⟩)
    (c__law_rounds : PySem.W.codeIn K cd__law_rounds "_law_rounds" = true)
    (k__law_rounds : PySem.W.keepIn K (.ref f__law_rounds) = true)
    (a__law_pool : PySem.W.nsIn K mainGlobals "_law_pool" = some (some (.ref f__law_pool)))
    (l__law_pool : K.lookup f__law_pool = some ⟨oc__law_pool, od__law_pool, .func (PySem.W.fnOf "_law_pool" "_law_pool" (defArgs s__law_pool) (defBody s__law_pool) (defScope s__law_pool) .none kV__law_pool dc__law_pool pm__law_pool an__law_pool cd__law_pool ct__law_pool), sl__law_pool⟩)
    (c__law_pool : PySem.W.codeIn K cd__law_pool "_law_pool" = true)
    (k__law_pool : PySem.W.keepIn K (.ref f__law_pool) = true)
    (a__law_world : PySem.W.nsIn K mainGlobals "_law_world" = some (some (.ref f__law_world)))
    (l__law_world : K.lookup f__law_world = some ⟨oc__law_world, od__law_world, .func (PySem.W.fnOf "_law_world" "_law_world" (defArgs s__law_world) (defBody s__law_world) (defScope s__law_world) .none kV__law_world dc__law_world pm__law_world an__law_world cd__law_world ct__law_world), sl__law_world⟩)
    (c__law_world : PySem.W.codeIn K cd__law_world "_law_world" = true)
    (k__law_world : PySem.W.keepIn K (.ref f__law_world) = true)
    (a__law_take : PySem.W.nsIn K mainGlobals "_law_take" = some (some (.ref f__law_take)))
    (l__law_take : K.lookup f__law_take = some ⟨oc__law_take, od__law_take, .func (PySem.W.fnOf "_law_take" "_law_take" (defArgs s__law_take) (defBody s__law_take) (defScope s__law_take) .none kV__law_take dc__law_take pm__law_take an__law_take cd__law_take ct__law_take), sl__law_take⟩)
    (c__law_take : PySem.W.codeIn K cd__law_take "_law_take" = true)
    (k__law_take : PySem.W.keepIn K (.ref f__law_take) = true)
    (a__law_one : PySem.W.nsIn K mainGlobals "_law_one" = some (some (.ref f__law_one)))
    (l__law_one : K.lookup f__law_one = some ⟨oc__law_one, od__law_one, .func (PySem.W.fnOf "_law_one" "_law_one" (defArgs s__law_one) (defBody s__law_one) (defScope s__law_one) .none kV__law_one dc__law_one pm__law_one an__law_one cd__law_one ct__law_one), sl__law_one⟩)
    (c__law_one : PySem.W.codeIn K cd__law_one "_law_one" = true)
    (k__law_one : PySem.W.keepIn K (.ref f__law_one) = true)
    (a__law_do : PySem.W.nsIn K mainGlobals "_law_do" = some (some (.ref f__law_do)))
    (l__law_do : K.lookup f__law_do = some ⟨oc__law_do, od__law_do, .func (PySem.W.fnOf "_law_do" "_law_do" (defArgs s__law_do) (defBody s__law_do) (defScope s__law_do) .none kV__law_do dc__law_do pm__law_do an__law_do cd__law_do ct__law_do), sl__law_do⟩)
    (c__law_do : PySem.W.codeIn K cd__law_do "_law_do" = true)
    (k__law_do : PySem.W.keepIn K (.ref f__law_do) = true)
    (a__law_learn : PySem.W.nsIn K mainGlobals "_law_learn" = some (some (.ref f__law_learn)))
    (l__law_learn : K.lookup f__law_learn = some ⟨oc__law_learn, od__law_learn, .func (PySem.W.fnOf "_law_learn" "_law_learn" (defArgs s__law_learn) (defBody s__law_learn) (defScope s__law_learn) .none kV__law_learn dc__law_learn pm__law_learn an__law_learn cd__law_learn ct__law_learn), sl__law_learn⟩)
    (c__law_learn : PySem.W.codeIn K cd__law_learn "_law_learn" = true)
    (k__law_learn : PySem.W.keepIn K (.ref f__law_learn) = true)
    (a__law_content : PySem.W.nsIn K mainGlobals "_law_content" = some (some (.ref f__law_content)))
    (l__law_content : K.lookup f__law_content = some ⟨oc__law_content, od__law_content, .func (PySem.W.fnOf "_law_content" "_law_content" (defArgs s__law_content) (defBody s__law_content) (defScope s__law_content) .none kV__law_content dc__law_content pm__law_content an__law_content cd__law_content ct__law_content), sl__law_content⟩)
    (c__law_content : PySem.W.codeIn K cd__law_content "_law_content" = true)
    (k__law_content : PySem.W.keepIn K (.ref f__law_content) = true)
    (a__law_holders : PySem.W.nsIn K mainGlobals "_law_holders" = some (some (.ref f__law_holders)))
    (l__law_holders : K.lookup f__law_holders = some ⟨oc__law_holders, od__law_holders, .func (PySem.W.fnOf "_law_holders" "_law_holders" (defArgs s__law_holders) (defBody s__law_holders) (defScope s__law_holders) .none kV__law_holders dc__law_holders pm__law_holders an__law_holders cd__law_holders ct__law_holders), sl__law_holders⟩)
    (c__law_holders : PySem.W.codeIn K cd__law_holders "_law_holders" = true)
    (k__law_holders : PySem.W.keepIn K (.ref f__law_holders) = true)
    (a__law_made_body : PySem.W.nsIn K mainGlobals "_law_made_body" = some (some (.ref f__law_made_body)))
    (l__law_made_body : K.lookup f__law_made_body = some ⟨oc__law_made_body, od__law_made_body, .func (PySem.W.fnOf "_law_made_body" "_law_made_body" (defArgs s__law_made_body) (defBody s__law_made_body) (defScope s__law_made_body) .none kV__law_made_body dc__law_made_body pm__law_made_body an__law_made_body cd__law_made_body ct__law_made_body), sl__law_made_body⟩)
    (c__law_made_body : PySem.W.codeIn K cd__law_made_body "_law_made_body" = true)
    (k__law_made_body : PySem.W.keepIn K (.ref f__law_made_body) = true)
    (a__law_body : PySem.W.nsIn K mainGlobals "_law_body" = some (some (.ref f__law_body)))
    (l__law_body : K.lookup f__law_body = some ⟨oc__law_body, od__law_body, .func (PySem.W.fnOf "_law_body" "_law_body" (defArgs s__law_body) (defBody s__law_body) (defScope s__law_body) .none kV__law_body dc__law_body pm__law_body an__law_body cd__law_body ct__law_body), sl__law_body⟩)
    (c__law_body : PySem.W.codeIn K cd__law_body "_law_body" = true)
    (k__law_body : PySem.W.keepIn K (.ref f__law_body) = true)
    (a__law_seen_deeds : PySem.W.nsIn K mainGlobals "_law_seen_deeds" = some (some (.ref f__law_seen_deeds)))
    (l__law_seen_deeds : K.lookup f__law_seen_deeds = some ⟨oc__law_seen_deeds, od__law_seen_deeds, .func (PySem.W.fnOf "_law_seen_deeds" "_law_seen_deeds" (defArgs s__law_seen_deeds) (defBody s__law_seen_deeds) (defScope s__law_seen_deeds) .none kV__law_seen_deeds dc__law_seen_deeds pm__law_seen_deeds an__law_seen_deeds cd__law_seen_deeds ct__law_seen_deeds), sl__law_seen_deeds⟩)
    (c__law_seen_deeds : PySem.W.codeIn K cd__law_seen_deeds "_law_seen_deeds" = true)
    (k__law_seen_deeds : PySem.W.keepIn K (.ref f__law_seen_deeds) = true)
    (a__law_step : PySem.W.nsIn K mainGlobals "_law_step" = some (some (.ref f__law_step)))
    (l__law_step : K.lookup f__law_step = some ⟨oc__law_step, od__law_step, .func (PySem.W.fnOf "_law_step" "_law_step" (defArgs s__law_step) (defBody s__law_step) (defScope s__law_step) .none kV__law_step dc__law_step pm__law_step an__law_step cd__law_step ct__law_step), sl__law_step⟩)
    (c__law_step : PySem.W.codeIn K cd__law_step "_law_step" = true)
    (k__law_step : PySem.W.keepIn K (.ref f__law_step) = true)
    (a__law_drawn : PySem.W.nsIn K mainGlobals "_law_drawn" = some (some (.ref f__law_drawn)))
    (l__law_drawn : K.lookup f__law_drawn = some ⟨oc__law_drawn, od__law_drawn, .func (PySem.W.fnOf "_law_drawn" "_law_drawn" (defArgs s__law_drawn) (defBody s__law_drawn) (defScope s__law_drawn) .none kV__law_drawn dc__law_drawn pm__law_drawn an__law_drawn cd__law_drawn ct__law_drawn), sl__law_drawn⟩)
    (c__law_drawn : PySem.W.codeIn K cd__law_drawn "_law_drawn" = true)
    (k__law_drawn : PySem.W.keepIn K (.ref f__law_drawn) = true)
    (a__law_odd : PySem.W.nsIn K mainGlobals "_law_odd" = some (some (.ref f__law_odd)))
    (l__law_odd : K.lookup f__law_odd = some ⟨oc__law_odd, od__law_odd, .func (PySem.W.fnOf "_law_odd" "_law_odd" (defArgs s__law_odd) (defBody s__law_odd) (defScope s__law_odd) .none kV__law_odd dc__law_odd pm__law_odd an__law_odd cd__law_odd ct__law_odd), sl__law_odd⟩)
    (c__law_odd : PySem.W.codeIn K cd__law_odd "_law_odd" = true)
    (k__law_odd : PySem.W.keepIn K (.ref f__law_odd) = true)
    (a__law_bent : PySem.W.nsIn K mainGlobals "_law_bent" = some (some (.ref f__law_bent)))
    (l__law_bent : K.lookup f__law_bent = some ⟨oc__law_bent, od__law_bent, .func (PySem.W.fnOf "_law_bent" "_law_bent" (defArgs s__law_bent) (defBody s__law_bent) (defScope s__law_bent) .none kV__law_bent dc__law_bent pm__law_bent an__law_bent cd__law_bent ct__law_bent), sl__law_bent⟩)
    (c__law_bent : PySem.W.codeIn K cd__law_bent "_law_bent" = true)
    (k__law_bent : PySem.W.keepIn K (.ref f__law_bent) = true)
    (a_is_name : PySem.W.nsIn K mainGlobals "is_name" = some (some (.ref f_is_name)))
    (l_is_name : K.lookup f_is_name = some ⟨oc_is_name, od_is_name, .func (PySem.W.fnOf "is_name" "is_name" (defArgs s_is_name) (defBody s_is_name) (defScope s_is_name) .none kV_is_name dc_is_name pm_is_name an_is_name cd_is_name ct_is_name), sl_is_name⟩)
    (c_is_name : PySem.W.codeIn K cd_is_name "is_name" = true)
    (k_is_name : PySem.W.keepIn K (.ref f_is_name) = true)
    (a_is_tuple_of : PySem.W.nsIn K mainGlobals "is_tuple_of" = some (some (.ref f_is_tuple_of)))
    (l_is_tuple_of : K.lookup f_is_tuple_of = some ⟨oc_is_tuple_of, od_is_tuple_of, .func (PySem.W.fnOf "is_tuple_of" "is_tuple_of" (defArgs s_is_tuple_of) (defBody s_is_tuple_of) (defScope s_is_tuple_of) .none kV_is_tuple_of dc_is_tuple_of pm_is_tuple_of an_is_tuple_of cd_is_tuple_of ct_is_tuple_of), sl_is_tuple_of⟩)
    (c_is_tuple_of : PySem.W.codeIn K cd_is_tuple_of "is_tuple_of" = true)
    (k_is_tuple_of : PySem.W.keepIn K (.ref f_is_tuple_of) = true)
    (a_is_whole : PySem.W.nsIn K mainGlobals "is_whole" = some (some (.ref f_is_whole)))
    (l_is_whole : K.lookup f_is_whole = some ⟨oc_is_whole, od_is_whole, .func (PySem.W.fnOf "is_whole" "is_whole" (defArgs s_is_whole) (defBody s_is_whole) (defScope s_is_whole) .none kV_is_whole dc_is_whole pm_is_whole an_is_whole cd_is_whole ct_is_whole), sl_is_whole⟩)
    (c_is_whole : PySem.W.codeIn K cd_is_whole "is_whole" = true)
    (k_is_whole : PySem.W.keepIn K (.ref f_is_whole) = true)
    (a_is_number : PySem.W.nsIn K mainGlobals "is_number" = some (some (.ref f_is_number)))
    (l_is_number : K.lookup f_is_number = some ⟨oc_is_number, od_is_number, .func (PySem.W.fnOf "is_number" "is_number" (defArgs s_is_number) (defBody s_is_number) (defScope s_is_number) .none kV_is_number dc_is_number pm_is_number an_is_number cd_is_number ct_is_number), sl_is_number⟩)
    (c_is_number : PySem.W.codeIn K cd_is_number "is_number" = true)
    (k_is_number : PySem.W.keepIn K (.ref f_is_number) = true)
    (a_is_stamp : PySem.W.nsIn K mainGlobals "is_stamp" = some (some (.ref f_is_stamp)))
    (l_is_stamp : K.lookup f_is_stamp = some ⟨oc_is_stamp, od_is_stamp, .func (PySem.W.fnOf "is_stamp" "is_stamp" (defArgs s_is_stamp) (defBody s_is_stamp) (defScope s_is_stamp) .none kV_is_stamp dc_is_stamp pm_is_stamp an_is_stamp cd_is_stamp ct_is_stamp), sl_is_stamp⟩)
    (c_is_stamp : PySem.W.codeIn K cd_is_stamp "is_stamp" = true)
    (k_is_stamp : PySem.W.keepIn K (.ref f_is_stamp) = true)
    (a_is_place_name : PySem.W.nsIn K mainGlobals "is_place_name" = some (some (.ref f_is_place_name)))
    (l_is_place_name : K.lookup f_is_place_name = some ⟨oc_is_place_name, od_is_place_name, .func (PySem.W.fnOf "is_place_name" "is_place_name" (defArgs s_is_place_name) (defBody s_is_place_name) (defScope s_is_place_name) .none kV_is_place_name dc_is_place_name pm_is_place_name an_is_place_name cd_is_place_name ct_is_place_name), sl_is_place_name⟩)
    (c_is_place_name : PySem.W.codeIn K cd_is_place_name "is_place_name" = true)
    (k_is_place_name : PySem.W.keepIn K (.ref f_is_place_name) = true)
    (a_is_binder : PySem.W.nsIn K mainGlobals "is_binder" = some (some (.ref f_is_binder)))
    (l_is_binder : K.lookup f_is_binder = some ⟨oc_is_binder, od_is_binder, .func (PySem.W.fnOf "is_binder" "is_binder" (defArgs s_is_binder) (defBody s_is_binder) (defScope s_is_binder) .none kV_is_binder dc_is_binder pm_is_binder an_is_binder cd_is_binder ct_is_binder), sl_is_binder⟩)
    (c_is_binder : PySem.W.codeIn K cd_is_binder "is_binder" = true)
    (k_is_binder : PySem.W.keepIn K (.ref f_is_binder) = true)
    (a_is_content : PySem.W.nsIn K mainGlobals "is_content" = some (some (.ref f_is_content)))
    (l_is_content : K.lookup f_is_content = some ⟨oc_is_content, od_is_content, .func (PySem.W.fnOf "is_content" "is_content" (defArgs s_is_content) (defBody s_is_content) (defScope s_is_content) .none kV_is_content dc_is_content pm_is_content an_is_content cd_is_content ct_is_content), sl_is_content⟩)
    (c_is_content : PySem.W.codeIn K cd_is_content "is_content" = true)
    (k_is_content : PySem.W.keepIn K (.ref f_is_content) = true)
    (a_is_make : PySem.W.nsIn K mainGlobals "is_make" = some (some (.ref f_is_make)))
    (l_is_make : K.lookup f_is_make = some ⟨oc_is_make, od_is_make, .func (PySem.W.fnOf "is_make" "is_make" (defArgs s_is_make) (defBody s_is_make) (defScope s_is_make) .none kV_is_make dc_is_make pm_is_make an_is_make cd_is_make ct_is_make), sl_is_make⟩)
    (c_is_make : PySem.W.codeIn K cd_is_make "is_make" = true)
    (k_is_make : PySem.W.keepIn K (.ref f_is_make) = true)
    (a_is_placing_body : PySem.W.nsIn K mainGlobals "is_placing_body" = some (some (.ref f_is_placing_body)))
    (l_is_placing_body : K.lookup f_is_placing_body = some ⟨oc_is_placing_body, od_is_placing_body, .func (PySem.W.fnOf "is_placing_body" "is_placing_body" (defArgs s_is_placing_body) (defBody s_is_placing_body) (defScope s_is_placing_body) .none kV_is_placing_body dc_is_placing_body pm_is_placing_body an_is_placing_body cd_is_placing_body ct_is_placing_body), sl_is_placing_body⟩)
    (c_is_placing_body : PySem.W.codeIn K cd_is_placing_body "is_placing_body" = true)
    (k_is_placing_body : PySem.W.keepIn K (.ref f_is_placing_body) = true)
    (a_is_content_body : PySem.W.nsIn K mainGlobals "is_content_body" = some (some (.ref f_is_content_body)))
    (l_is_content_body : K.lookup f_is_content_body = some ⟨oc_is_content_body, od_is_content_body, .func (PySem.W.fnOf "is_content_body" "is_content_body" (defArgs s_is_content_body) (defBody s_is_content_body) (defScope s_is_content_body) .none kV_is_content_body dc_is_content_body pm_is_content_body an_is_content_body cd_is_content_body ct_is_content_body), sl_is_content_body⟩)
    (c_is_content_body : PySem.W.codeIn K cd_is_content_body "is_content_body" = true)
    (k_is_content_body : PySem.W.keepIn K (.ref f_is_content_body) = true)
    (a_is_body : PySem.W.nsIn K mainGlobals "is_body" = some (some (.ref f_is_body)))
    (l_is_body : K.lookup f_is_body = some ⟨oc_is_body, od_is_body, .func (PySem.W.fnOf "is_body" "is_body" (defArgs s_is_body) (defBody s_is_body) (defScope s_is_body) .none kV_is_body dc_is_body pm_is_body an_is_body cd_is_body ct_is_body), sl_is_body⟩)
    (c_is_body : PySem.W.codeIn K cd_is_body "is_body" = true)
    (k_is_body : PySem.W.keepIn K (.ref f_is_body) = true)
    (a_is_seen : PySem.W.nsIn K mainGlobals "is_seen" = some (some (.ref f_is_seen)))
    (l_is_seen : K.lookup f_is_seen = some ⟨oc_is_seen, od_is_seen, .func (PySem.W.fnOf "is_seen" "is_seen" (defArgs s_is_seen) (defBody s_is_seen) (defScope s_is_seen) .none kV_is_seen dc_is_seen pm_is_seen an_is_seen cd_is_seen ct_is_seen), sl_is_seen⟩)
    (c_is_seen : PySem.W.codeIn K cd_is_seen "is_seen" = true)
    (k_is_seen : PySem.W.keepIn K (.ref f_is_seen) = true)
    (a_is_deed : PySem.W.nsIn K mainGlobals "is_deed" = some (some (.ref f_is_deed)))
    (l_is_deed : K.lookup f_is_deed = some ⟨oc_is_deed, od_is_deed, .func (PySem.W.fnOf "is_deed" "is_deed" (defArgs s_is_deed) (defBody s_is_deed) (defScope s_is_deed) .none kV_is_deed dc_is_deed pm_is_deed an_is_deed cd_is_deed ct_is_deed), sl_is_deed⟩)
    (c_is_deed : PySem.W.codeIn K cd_is_deed "is_deed" = true)
    (k_is_deed : PySem.W.keepIn K (.ref f_is_deed) = true)
    (a_does_hold : PySem.W.nsIn K mainGlobals "does_hold" = some (some (.ref f_does_hold)))
    (l_does_hold : K.lookup f_does_hold = some ⟨oc_does_hold, od_does_hold, .func (PySem.W.fnOf "does_hold" "does_hold" (defArgs s_does_hold) (defBody s_does_hold) (defScope s_does_hold) .none kV_does_hold dc_does_hold pm_does_hold an_does_hold cd_does_hold ct_does_hold), sl_does_hold⟩)
    (c_does_hold : PySem.W.codeIn K cd_does_hold "does_hold" = true)
    (k_does_hold : PySem.W.keepIn K (.ref f_does_hold) = true)
    (a__law_a_name : PySem.W.nsIn K mainGlobals "_law_a_name" = some (some (.ref f__law_a_name)))
    (l__law_a_name : K.lookup f__law_a_name = some ⟨oc__law_a_name, od__law_a_name, .func (PySem.W.fnOf "_law_a_name" "_law_a_name" (defArgs s__law_a_name) (defBody s__law_a_name) (defScope s__law_a_name) .none kV__law_a_name dc__law_a_name pm__law_a_name an__law_a_name cd__law_a_name ct__law_a_name), sl__law_a_name⟩)
    (c__law_a_name : PySem.W.codeIn K cd__law_a_name "_law_a_name" = true)
    (k__law_a_name : PySem.W.keepIn K (.ref f__law_a_name) = true)
    (a__law_whole : PySem.W.nsIn K mainGlobals "_law_whole" = some (some (.ref f__law_whole)))
    (l__law_whole : K.lookup f__law_whole = some ⟨oc__law_whole, od__law_whole, .func (PySem.W.fnOf "_law_whole" "_law_whole" (defArgs s__law_whole) (defBody s__law_whole) (defScope s__law_whole) .none kV__law_whole dc__law_whole pm__law_whole an__law_whole cd__law_whole ct__law_whole), sl__law_whole⟩)
    (c__law_whole : PySem.W.codeIn K cd__law_whole "_law_whole" = true)
    (k__law_whole : PySem.W.keepIn K (.ref f__law_whole) = true)
    (a__law_a_stamp : PySem.W.nsIn K mainGlobals "_law_a_stamp" = some (some (.ref f__law_a_stamp)))
    (l__law_a_stamp : K.lookup f__law_a_stamp = some ⟨oc__law_a_stamp, od__law_a_stamp, .func (PySem.W.fnOf "_law_a_stamp" "_law_a_stamp" (defArgs s__law_a_stamp) (defBody s__law_a_stamp) (defScope s__law_a_stamp) .none kV__law_a_stamp dc__law_a_stamp pm__law_a_stamp an__law_a_stamp cd__law_a_stamp ct__law_a_stamp), sl__law_a_stamp⟩)
    (c__law_a_stamp : PySem.W.codeIn K cd__law_a_stamp "_law_a_stamp" = true)
    (k__law_a_stamp : PySem.W.keepIn K (.ref f__law_a_stamp) = true)
    (a__law_a_place : PySem.W.nsIn K mainGlobals "_law_a_place" = some (some (.ref f__law_a_place)))
    (l__law_a_place : K.lookup f__law_a_place = some ⟨oc__law_a_place, od__law_a_place, .func (PySem.W.fnOf "_law_a_place" "_law_a_place" (defArgs s__law_a_place) (defBody s__law_a_place) (defScope s__law_a_place) .none kV__law_a_place dc__law_a_place pm__law_a_place an__law_a_place cd__law_a_place ct__law_a_place), sl__law_a_place⟩)
    (c__law_a_place : PySem.W.codeIn K cd__law_a_place "_law_a_place" = true)
    (k__law_a_place : PySem.W.keepIn K (.ref f__law_a_place) = true)
    (a__law_a_content : PySem.W.nsIn K mainGlobals "_law_a_content" = some (some (.ref f__law_a_content)))
    (l__law_a_content : K.lookup f__law_a_content = some ⟨oc__law_a_content, od__law_a_content, .func (PySem.W.fnOf "_law_a_content" "_law_a_content" (defArgs s__law_a_content) (defBody s__law_a_content) (defScope s__law_a_content) .none kV__law_a_content dc__law_a_content pm__law_a_content an__law_a_content cd__law_a_content ct__law_a_content), sl__law_a_content⟩)
    (c__law_a_content : PySem.W.codeIn K cd__law_a_content "_law_a_content" = true)
    (k__law_a_content : PySem.W.keepIn K (.ref f__law_a_content) = true)
    (a__law_a_body : PySem.W.nsIn K mainGlobals "_law_a_body" = some (some (.ref f__law_a_body)))
    (l__law_a_body : K.lookup f__law_a_body = some ⟨oc__law_a_body, od__law_a_body, .func (PySem.W.fnOf "_law_a_body" "_law_a_body" (defArgs s__law_a_body) (defBody s__law_a_body) (defScope s__law_a_body) .none kV__law_a_body dc__law_a_body pm__law_a_body an__law_a_body cd__law_a_body ct__law_a_body), sl__law_a_body⟩)
    (c__law_a_body : PySem.W.codeIn K cd__law_a_body "_law_a_body" = true)
    (k__law_a_body : PySem.W.keepIn K (.ref f__law_a_body) = true)
    (a__law_a_deed : PySem.W.nsIn K mainGlobals "_law_a_deed" = some (some (.ref f__law_a_deed)))
    (l__law_a_deed : K.lookup f__law_a_deed = some ⟨oc__law_a_deed, od__law_a_deed, .func (PySem.W.fnOf "_law_a_deed" "_law_a_deed" (defArgs s__law_a_deed) (defBody s__law_a_deed) (defScope s__law_a_deed) .none kV__law_a_deed dc__law_a_deed pm__law_a_deed an__law_a_deed cd__law_a_deed ct__law_a_deed), sl__law_a_deed⟩)
    (c__law_a_deed : PySem.W.codeIn K cd__law_a_deed "_law_a_deed" = true)
    (k__law_a_deed : PySem.W.keepIn K (.ref f__law_a_deed) = true)
    (a__law_value_right : PySem.W.nsIn K mainGlobals "_law_value_right" = some (some (.ref f__law_value_right)))
    (l__law_value_right : K.lookup f__law_value_right = some ⟨oc__law_value_right, od__law_value_right, .func (PySem.W.fnOf "_law_value_right" "_law_value_right" (defArgs s__law_value_right) (defBody s__law_value_right) (defScope s__law_value_right) .none kV__law_value_right dc__law_value_right pm__law_value_right an__law_value_right cd__law_value_right ct__law_value_right), sl__law_value_right⟩)
    (c__law_value_right : PySem.W.codeIn K cd__law_value_right "_law_value_right" = true)
    (k__law_value_right : PySem.W.keepIn K (.ref f__law_value_right) = true)
    (a__law_caught : PySem.W.nsIn K mainGlobals "_law_caught" = some (some (.ref f__law_caught)))
    (l__law_caught : K.lookup f__law_caught = some ⟨oc__law_caught, od__law_caught, .func (PySem.W.fnOf "_law_caught" "_law_caught" (defArgs s__law_caught) (defBody s__law_caught) (defScope s__law_caught) .none kV__law_caught dc__law_caught pm__law_caught an__law_caught cd__law_caught ct__law_caught), sl__law_caught⟩)
    (c__law_caught : PySem.W.codeIn K cd__law_caught "_law_caught" = true)
    (k__law_caught : PySem.W.keepIn K (.ref f__law_caught) = true)
    (a_NoDeed___init__ : PySem.W.findIn K (.ref C_NoDeed) "__init__" = some (some (.ref f_NoDeed___init__)))
    (i_NoDeed___init__ : PySem.W.isFn K (.ref f_NoDeed___init__) = true)
    (l_NoDeed___init__ : K.lookup f_NoDeed___init__ = some ⟨oc_NoDeed___init__, od_NoDeed___init__, .func (PySem.W.ksFn "__init__" "NoDeed.__init__" (defArgs s_NoDeed___init__) (defBody s_NoDeed___init__) (defScope s_NoDeed___init__) .none kV_NoDeed___init__ dc_NoDeed___init__ pm_NoDeed___init__ an_NoDeed___init__ (.ref cda_NoDeed___init__) ct_NoDeed___init__ cc_NoDeed___init__), sl_NoDeed___init__⟩)
    (c_NoDeed___init__ : PySem.W.codeIn K (.ref cda_NoDeed___init__) "NoDeed.__init__" = true)
    (k_NoDeed___init__ : PySem.W.keepIn K (.ref f_NoDeed___init__) = true)
    (a_check_deed : PySem.W.nsIn K mainGlobals "check_deed" = some (some (.ref f_check_deed)))
    (l_check_deed : K.lookup f_check_deed = some ⟨oc_check_deed, od_check_deed, .func (PySem.W.fnOf "check_deed" "check_deed" (defArgs s_check_deed) (defBody s_check_deed) (defScope s_check_deed) .none kV_check_deed dc_check_deed pm_check_deed an_check_deed cd_check_deed ct_check_deed), sl_check_deed⟩)
    (c_check_deed : PySem.W.codeIn K cd_check_deed "check_deed" = true)
    (k_check_deed : PySem.W.keepIn K (.ref f_check_deed) = true)
    (a_is_mark : PySem.W.nsIn K mainGlobals "is_mark" = some (some (.ref f_is_mark)))
    (l_is_mark : K.lookup f_is_mark = some ⟨oc_is_mark, od_is_mark, .func (PySem.W.fnOf "is_mark" "is_mark" (defArgs s_is_mark) (defBody s_is_mark) (defScope s_is_mark) .none kV_is_mark dc_is_mark pm_is_mark an_is_mark cd_is_mark ct_is_mark), sl_is_mark⟩)
    (c_is_mark : PySem.W.codeIn K cd_is_mark "is_mark" = true)
    (k_is_mark : PySem.W.keepIn K (.ref f_is_mark) = true)
    (a_in_stamp_order : PySem.W.nsIn K mainGlobals "in_stamp_order" = some (some (.ref f_in_stamp_order)))
    (l_in_stamp_order : K.lookup f_in_stamp_order = some ⟨oc_in_stamp_order, od_in_stamp_order, .func (PySem.W.fnOf "in_stamp_order" "in_stamp_order" (defArgs s_in_stamp_order) (defBody s_in_stamp_order) (defScope s_in_stamp_order) .none kV_in_stamp_order dc_in_stamp_order pm_in_stamp_order an_in_stamp_order cd_in_stamp_order ct_in_stamp_order), sl_in_stamp_order⟩)
    (c_in_stamp_order : PySem.W.codeIn K cd_in_stamp_order "in_stamp_order" = true)
    (k_in_stamp_order : PySem.W.keepIn K (.ref f_in_stamp_order) = true)
    (a_names_in : PySem.W.nsIn K mainGlobals "names_in" = some (some (.ref f_names_in)))
    (l_names_in : K.lookup f_names_in = some ⟨oc_names_in, od_names_in, .func (PySem.W.fnOf "names_in" "names_in" (defArgs s_names_in) (defBody s_names_in) (defScope s_names_in) .none kV_names_in dc_names_in pm_names_in an_names_in cd_names_in ct_names_in), sl_names_in⟩)
    (c_names_in : PySem.W.codeIn K cd_names_in "names_in" = true)
    (k_names_in : PySem.W.keepIn K (.ref f_names_in) = true)
    (a_named_by : PySem.W.nsIn K mainGlobals "named_by" = some (some (.ref f_named_by)))
    (l_named_by : K.lookup f_named_by = some ⟨oc_named_by, od_named_by, .func (PySem.W.fnOf "named_by" "named_by" (defArgs s_named_by) (defBody s_named_by) (defScope s_named_by) .none kV_named_by dc_named_by pm_named_by an_named_by cd_named_by ct_named_by), sl_named_by⟩)
    (c_named_by : PySem.W.codeIn K cd_named_by "named_by" = true)
    (k_named_by : PySem.W.keepIn K (.ref f_named_by) = true)
    (a__law_stamps : PySem.W.nsIn K mainGlobals "_law_stamps" = some (some (.ref f__law_stamps)))
    (l__law_stamps : K.lookup f__law_stamps = some ⟨oc__law_stamps, od__law_stamps, .func (PySem.W.fnOf "_law_stamps" "_law_stamps" (defArgs s__law_stamps) (defBody s__law_stamps) (defScope s__law_stamps) .none kV__law_stamps dc__law_stamps pm__law_stamps an__law_stamps cd__law_stamps ct__law_stamps), sl__law_stamps⟩)
    (c__law_stamps : PySem.W.codeIn K cd__law_stamps "_law_stamps" = true)
    (k__law_stamps : PySem.W.keepIn K (.ref f__law_stamps) = true)
    (a__law_names : PySem.W.nsIn K mainGlobals "_law_names" = some (some (.ref f__law_names)))
    (l__law_names : K.lookup f__law_names = some ⟨oc__law_names, od__law_names, .func (PySem.W.fnOf "_law_names" "_law_names" (defArgs s__law_names) (defBody s__law_names) (defScope s__law_names) .none kV__law_names dc__law_names pm__law_names an__law_names cd__law_names ct__law_names), sl__law_names⟩)
    (c__law_names : PySem.W.codeIn K cd__law_names "_law_names" = true)
    (k__law_names : PySem.W.keepIn K (.ref f__law_names) = true)
    (a_NoHand___init__ : PySem.W.findIn K (.ref C_NoHand) "__init__" = some (some (.ref f_NoHand___init__)))
    (i_NoHand___init__ : PySem.W.isFn K (.ref f_NoHand___init__) = true)
    (l_NoHand___init__ : K.lookup f_NoHand___init__ = some ⟨oc_NoHand___init__, od_NoHand___init__, .func (PySem.W.ksFn "__init__" "NoHand.__init__" (defArgs s_NoHand___init__) (defBody s_NoHand___init__) (defScope s_NoHand___init__) .none kV_NoHand___init__ dc_NoHand___init__ pm_NoHand___init__ an_NoHand___init__ (.ref cda_NoHand___init__) ct_NoHand___init__ cc_NoHand___init__), sl_NoHand___init__⟩)
    (c_NoHand___init__ : PySem.W.codeIn K (.ref cda_NoHand___init__) "NoHand.__init__" = true)
    (k_NoHand___init__ : PySem.W.keepIn K (.ref f_NoHand___init__) = true)
    (a_check_hand : PySem.W.nsIn K mainGlobals "check_hand" = some (some (.ref f_check_hand)))
    (l_check_hand : K.lookup f_check_hand = some ⟨oc_check_hand, od_check_hand, .func (PySem.W.fnOf "check_hand" "check_hand" (defArgs s_check_hand) (defBody s_check_hand) (defScope s_check_hand) .none kV_check_hand dc_check_hand pm_check_hand an_check_hand cd_check_hand ct_check_hand), sl_check_hand⟩)
    (c_check_hand : PySem.W.codeIn K cd_check_hand "check_hand" = true)
    (k_check_hand : PySem.W.keepIn K (.ref f_check_hand) = true)
    (a_time_seen : PySem.W.nsIn K mainGlobals "time_seen" = some (some (.ref f_time_seen)))
    (l_time_seen : K.lookup f_time_seen = some ⟨oc_time_seen, od_time_seen, .func (PySem.W.fnOf "time_seen" "time_seen" (defArgs s_time_seen) (defBody s_time_seen) (defScope s_time_seen) .none kV_time_seen dc_time_seen pm_time_seen an_time_seen cd_time_seen ct_time_seen), sl_time_seen⟩)
    (c_time_seen : PySem.W.codeIn K cd_time_seen "time_seen" = true)
    (k_time_seen : PySem.W.keepIn K (.ref f_time_seen) = true)
    (a__law_deed_right : PySem.W.nsIn K mainGlobals "_law_deed_right" = some (some (.ref f__law_deed_right)))
    (l__law_deed_right : K.lookup f__law_deed_right = some ⟨oc__law_deed_right, od__law_deed_right, .func (PySem.W.fnOf "_law_deed_right" "_law_deed_right" (defArgs s__law_deed_right) (defBody s__law_deed_right) (defScope s__law_deed_right) .none kV__law_deed_right dc__law_deed_right pm__law_deed_right an__law_deed_right (.ref ca__law_deed_right) ct__law_deed_right), sl__law_deed_right⟩)
    (c__law_deed_right : PySem.W.codeIn K (.ref ca__law_deed_right) "_law_deed_right" = true)
    (cl__law_deed_right : K.lookup ca__law_deed_right = some ⟨.type "code", co__law_deed_right, .fields cv__law_deed_right, cs__law_deed_right⟩)
    (cp__law_deed_right : cv__law_deed_right[11]? = some (.ref P__law_deed_right))
    (ch__law_deed_right : PySem.W.codeHdIn K ca__law_deed_right P__law_deed_right = true)
    (tn__law_deed_right : K.lookup P__law_deed_right = none)
    (tb__law_deed_right : h.get? P__law_deed_right = some { cls := .none, data := .fields #[] })
    (k__law_deed_right : PySem.W.keepIn K (.ref f__law_deed_right) = true)
    (a_law : PySem.W.nsIn K mainGlobals "law" = some (some (.ref f_law)))
    (l_law : K.lookup f_law = some ⟨oc_law, od_law, .func (PySem.W.fnOf "law" "law" (defArgs s_law) (defBody s_law) (defScope s_law) .none kV_law dc_law pm_law an_law (.ref ca_law) ct_law), sl_law⟩)
    (c_law : PySem.W.codeIn K (.ref ca_law) "law" = true)
    (cl_law : K.lookup ca_law = some ⟨.type "code", co_law, .fields cv_law, cs_law⟩)
    (cp_law : cv_law[11]? = some (.ref P_law))
    (ch_law : PySem.W.codeHdIn K ca_law P_law = true)
    (tn_law : K.lookup P_law = none)
    (tb_law : h.get? P_law = some { cls := .none, data := .fields #[] })
    (k_law : PySem.W.keepIn K (.ref f_law) = true)
    (ag_HOLDERS : PySem.W.nsIn K mainGlobals "HOLDERS" = some (some (.ref g_HOLDERS)))
    (lg_HOLDERS : K.lookup g_HOLDERS = some ⟨.type "tuple", td_HOLDERS, .seq #[.str "block" tk_HOLDERS_0, .str "let" tk_HOLDERS_1, .str "sum" tk_HOLDERS_2, .str "product" tk_HOLDERS_3] tn_HOLDERS, ts_HOLDERS⟩)
    (ag_MARK_WORDS : PySem.W.nsIn K mainGlobals "MARK_WORDS" = some (some (.ref g_MARK_WORDS)))
    (lg_MARK_WORDS : K.lookup g_MARK_WORDS = some ⟨.type "tuple", td_MARK_WORDS, .seq #[.str "undo" tk_MARK_WORDS_0, .str "redo" tk_MARK_WORDS_1] tn_MARK_WORDS, ts_MARK_WORDS⟩)
    (ag_MOST_HAND : PySem.W.nsIn K mainGlobals "MOST_HAND" = some (some (.int 3 tk_MOST_HAND)))
    (ag_MOST_KEY : PySem.W.nsIn K mainGlobals "MOST_KEY" = some (some (.int 999 tk_MOST_KEY)))
    (ag_MOST_TIME : PySem.W.nsIn K mainGlobals "MOST_TIME" = some (some (.int 999 tk_MOST_TIME)))
    (ag_MOST_VALUE : PySem.W.nsIn K mainGlobals "MOST_VALUE" = some (some (.int 99 tk_MOST_VALUE)))
    (ag_NAME_LETTERS : PySem.W.nsIn K mainGlobals "NAME_LETTERS" = some (some (.str "abcdefghijklmnopqrstuvwxyz" tk_NAME_LETTERS)))
    (ag_ROOT : PySem.W.nsIn K mainGlobals "ROOT" = some (some (.ref g_ROOT)))
    (lg_ROOT : K.lookup g_ROOT = some ⟨.type "tuple", td_ROOT, .seq #[.int 0 tk_ROOT_0, .int 0 tk_ROOT_1] tn_ROOT, ts_ROOT⟩)
    (ab_all : PySem.W.nsIn K mainGlobals "all" = some none)
    (ab_bool : PySem.W.nsIn K mainGlobals "bool" = some none)
    (ab_dict : PySem.W.nsIn K mainGlobals "dict" = some none)
    (ab_int : PySem.W.nsIn K mainGlobals "int" = some none)
    (ab_isinstance : PySem.W.nsIn K mainGlobals "isinstance" = some none)
    (ab_len : PySem.W.nsIn K mainGlobals "len" = some none)
    (ab_list : PySem.W.nsIn K mainGlobals "list" = some none)
    (ab_max : PySem.W.nsIn K mainGlobals "max" = some none)
    (ab_min : PySem.W.nsIn K mainGlobals "min" = some none)
    (ab_range : PySem.W.nsIn K mainGlobals "range" = some none)
    (ab_repr : PySem.W.nsIn K mainGlobals "repr" = some none)
    (ab_sorted : PySem.W.nsIn K mainGlobals "sorted" = some none)
    (ab_str : PySem.W.nsIn K mainGlobals "str" = some none)
    (ab_tuple : PySem.W.nsIn K mainGlobals "tuple" = some none)
    (asup : PySem.W.nsIn K mainGlobals "super" = some none)
    (aany : PySem.W.nsIn K cStatics "thirdparty.any" = some none)
    (htop : (l.prog.main.scope.names.lookup ("super" : Str)).isSome = false)
    (xl_NoDeed : K.lookup C_NoDeed = some (excClassObj nm_NoDeed q_NoDeed C_NoDeed ns_NoDeed bs_NoDeed bm_NoDeed true sn_NoDeed sub_NoDeed ab_NoDeed col_NoDeed dd_NoDeed z0_NoDeed z1_NoDeed z2_NoDeed z3_NoDeed z5_NoDeed "ValueError.__new__"))
    (xr_NoDeed : PySem.HandSPX.refsVE bm_NoDeed = true)
    (xs_NoDeed : PySem.W.findIn K (.ref C_NoDeed) "__setattr__" = some (some (.builtin "object.__setattr__")))
    (xb_NoDeed : PySem.W.subIn K (.ref C_NoDeed) (.type "BaseException") = some true)
    (xt_NoDeed : PySem.W.typeIn K (.ref C_NoDeed) = some (.type "type"))
    (xk_NoDeed : PySem.W.keepIn K (.ref C_NoDeed) = true)
    (xv_NoDeed : PySem.W.subIn K (.ref C_NoDeed) (.type "ValueError") = some true)
    (xu_NoDeed : PySem.W.ks_superIn K C_NoDeed C_NoDeed "__init__" = some (some (.builtin "ValueError.__init__")))
    (xm_NoDeed : PySem.W.mroIn K C_NoDeed (.ref C_NoDeed) = some true)
    (xn_NoDeed : PySem.W.findIn K (.ref C_NoDeed) "told" = some none)
    (xy_NoDeed : PySem.W.typeIn K (.ref f_NoDeed___init__) = some (.type "function"))
    (xa_NoDeed : PySem.W.findIn K (.ref C_NoDeed) "__getattribute__" = some (some (.builtin "BaseException.__getattribute__")))
    (xg_NoDeed : PySem.W.findIn K (.ref C_NoDeed) "__getattr__" = some none)
    (xh_NoDeed : PySem.W.hasDictIn K C_NoDeed = true)
    (xc_NoDeed : K.lookup cda_NoDeed___init__ = some ⟨ccl_NoDeed, cdd_NoDeed, .fields vs_NoDeed, ccs_NoDeed⟩)
    (xf_NoDeed : vs_NoDeed[2]? = some (.str file_NoDeed tf_NoDeed))
    (xi_NoDeed : ((l.prog.main.file : Str) == file_NoDeed) = true)
    (xe_NoDeed : K.lookup cc_NoDeed___init__ = some ⟨cl_NoDeed, cld_NoDeed, .cell (some (.ref C_NoDeed)), csl_NoDeed⟩)
    (xD_NoDeed : PySem.W.clsIn K C_NoDeed = some cdD_NoDeed)
    (xz_NoDeed_NoDeed : PySem.W.subIn K (.ref C_NoDeed) (.ref C_NoDeed) = some true)
    (xz_NoDeed_NoHand : PySem.W.subIn K (.ref C_NoDeed) (.ref C_NoHand) = some false)
    (xl_NoHand : K.lookup C_NoHand = some (excClassObj nm_NoHand q_NoHand C_NoHand ns_NoHand bs_NoHand bm_NoHand true sn_NoHand sub_NoHand ab_NoHand col_NoHand dd_NoHand z0_NoHand z1_NoHand z2_NoHand z3_NoHand z5_NoHand "ValueError.__new__"))
    (xr_NoHand : PySem.HandSPX.refsVE bm_NoHand = true)
    (xs_NoHand : PySem.W.findIn K (.ref C_NoHand) "__setattr__" = some (some (.builtin "object.__setattr__")))
    (xb_NoHand : PySem.W.subIn K (.ref C_NoHand) (.type "BaseException") = some true)
    (xt_NoHand : PySem.W.typeIn K (.ref C_NoHand) = some (.type "type"))
    (xk_NoHand : PySem.W.keepIn K (.ref C_NoHand) = true)
    (xv_NoHand : PySem.W.subIn K (.ref C_NoHand) (.type "ValueError") = some true)
    (xu_NoHand : PySem.W.ks_superIn K C_NoHand C_NoHand "__init__" = some (some (.builtin "ValueError.__init__")))
    (xm_NoHand : PySem.W.mroIn K C_NoHand (.ref C_NoHand) = some true)
    (xn_NoHand : PySem.W.findIn K (.ref C_NoHand) "told" = some none)
    (xy_NoHand : PySem.W.typeIn K (.ref f_NoHand___init__) = some (.type "function"))
    (xa_NoHand : PySem.W.findIn K (.ref C_NoHand) "__getattribute__" = some (some (.builtin "BaseException.__getattribute__")))
    (xg_NoHand : PySem.W.findIn K (.ref C_NoHand) "__getattr__" = some none)
    (xh_NoHand : PySem.W.hasDictIn K C_NoHand = true)
    (xc_NoHand : K.lookup cda_NoHand___init__ = some ⟨ccl_NoHand, cdd_NoHand, .fields vs_NoHand, ccs_NoHand⟩)
    (xf_NoHand : vs_NoHand[2]? = some (.str file_NoHand tf_NoHand))
    (xi_NoHand : ((l.prog.main.file : Str) == file_NoHand) = true)
    (xe_NoHand : K.lookup cc_NoHand___init__ = some ⟨cl_NoHand, cld_NoHand, .cell (some (.ref C_NoHand)), csl_NoHand⟩)
    (xD_NoHand : PySem.W.clsIn K C_NoHand = some cdD_NoHand)
    (xz_NoHand_NoDeed : PySem.W.subIn K (.ref C_NoHand) (.ref C_NoDeed) = some false)
    (xz_NoHand_NoHand : PySem.W.subIn K (.ref C_NoHand) (.ref C_NoHand) = some true)
    (xb_NoBook : PySem.W.subIn K (.ref C_NoBook) (.type "BaseException") = some true)
    (xt_NoBook : PySem.W.typeIn K (.ref C_NoBook) = some (.type "type"))
    (xD_NoBook : PySem.W.clsIn K C_NoBook = some cdD_NoBook)
    (xz_NoDeed_NoBook : PySem.W.subIn K (.ref C_NoDeed) (.ref C_NoBook) = some false)
    (xz_NoHand_NoBook : PySem.W.subIn K (.ref C_NoHand) (.ref C_NoBook) = some false)
    (xb_NotClosed : PySem.W.subIn K (.ref C_NotClosed) (.type "BaseException") = some true)
    (xt_NotClosed : PySem.W.typeIn K (.ref C_NotClosed) = some (.type "type"))
    (xD_NotClosed : PySem.W.clsIn K C_NotClosed = some cdD_NotClosed)
    (xz_NoDeed_NotClosed : PySem.W.subIn K (.ref C_NoDeed) (.ref C_NotClosed) = some false)
    (xz_NoHand_NotClosed : PySem.W.subIn K (.ref C_NoHand) (.ref C_NotClosed) = some false)
    (xb_Unseen : PySem.W.subIn K (.ref C_Unseen) (.type "BaseException") = some true)
    (xt_Unseen : PySem.W.typeIn K (.ref C_Unseen) = some (.type "type"))
    (xD_Unseen : PySem.W.clsIn K C_Unseen = some cdD_Unseen)
    (xz_NoDeed_Unseen : PySem.W.subIn K (.ref C_NoDeed) (.ref C_Unseen) = some false)
    (xz_NoHand_Unseen : PySem.W.subIn K (.ref C_NoHand) (.ref C_Unseen) = some false)
    (xb_NoBody : PySem.W.subIn K (.ref C_NoBody) (.type "BaseException") = some true)
    (xt_NoBody : PySem.W.typeIn K (.ref C_NoBody) = some (.type "type"))
    (xD_NoBody : PySem.W.clsIn K C_NoBody = some cdD_NoBody)
    (xz_NoDeed_NoBody : PySem.W.subIn K (.ref C_NoDeed) (.ref C_NoBody) = some false)
    (xz_NoHand_NoBody : PySem.W.subIn K (.ref C_NoHand) (.ref C_NoBody) = some false)
    (xb_NoStamp : PySem.W.subIn K (.ref C_NoStamp) (.type "BaseException") = some true)
    (xt_NoStamp : PySem.W.typeIn K (.ref C_NoStamp) = some (.type "type"))
    (xD_NoStamp : PySem.W.clsIn K C_NoStamp = some cdD_NoStamp)
    (xz_NoDeed_NoStamp : PySem.W.subIn K (.ref C_NoDeed) (.ref C_NoStamp) = some false)
    (xz_NoHand_NoStamp : PySem.W.subIn K (.ref C_NoHand) (.ref C_NoStamp) = some false)
    (xb_NoStamps : PySem.W.subIn K (.ref C_NoStamps) (.type "BaseException") = some true)
    (xt_NoStamps : PySem.W.typeIn K (.ref C_NoStamps) = some (.type "type"))
    (xD_NoStamps : PySem.W.clsIn K C_NoStamps = some cdD_NoStamps)
    (xz_NoDeed_NoStamps : PySem.W.subIn K (.ref C_NoDeed) (.ref C_NoStamps) = some false)
    (xz_NoHand_NoStamps : PySem.W.subIn K (.ref C_NoHand) (.ref C_NoStamps) = some false)
    (xb_NoMenu : PySem.W.subIn K (.ref C_NoMenu) (.type "BaseException") = some true)
    (xt_NoMenu : PySem.W.typeIn K (.ref C_NoMenu) = some (.type "type"))
    (xD_NoMenu : PySem.W.clsIn K C_NoMenu = some cdD_NoMenu)
    (xz_NoDeed_NoMenu : PySem.W.subIn K (.ref C_NoDeed) (.ref C_NoMenu) = some false)
    (xz_NoHand_NoMenu : PySem.W.subIn K (.ref C_NoHand) (.ref C_NoMenu) = some false)
    (xb_NoPacket : PySem.W.subIn K (.ref C_NoPacket) (.type "BaseException") = some true)
    (xt_NoPacket : PySem.W.typeIn K (.ref C_NoPacket) = some (.type "type"))
    (xD_NoPacket : PySem.W.clsIn K C_NoPacket = some cdD_NoPacket)
    (xz_NoDeed_NoPacket : PySem.W.subIn K (.ref C_NoDeed) (.ref C_NoPacket) = some false)
    (xz_NoHand_NoPacket : PySem.W.subIn K (.ref C_NoHand) (.ref C_NoPacket) = some false)
    (xb_NothingBack : PySem.W.subIn K (.ref C_NothingBack) (.type "BaseException") = some true)
    (xt_NothingBack : PySem.W.typeIn K (.ref C_NothingBack) = some (.type "type"))
    (xD_NothingBack : PySem.W.clsIn K C_NothingBack = some cdD_NothingBack)
    (xz_NoDeed_NothingBack : PySem.W.subIn K (.ref C_NoDeed) (.ref C_NothingBack) = some false)
    (xz_NoHand_NothingBack : PySem.W.subIn K (.ref C_NoHand) (.ref C_NothingBack) = some false)
    (xb_NoHands : PySem.W.subIn K (.ref C_NoHands) (.type "BaseException") = some true)
    (xt_NoHands : PySem.W.typeIn K (.ref C_NoHands) = some (.type "type"))
    (xD_NoHands : PySem.W.clsIn K C_NoHands = some cdD_NoHands)
    (xz_NoDeed_NoHands : PySem.W.subIn K (.ref C_NoDeed) (.ref C_NoHands) = some false)
    (xz_NoHand_NoHands : PySem.W.subIn K (.ref C_NoHand) (.ref C_NoHands) = some false)
    (xb_NoBranches : PySem.W.subIn K (.ref C_NoBranches) (.type "BaseException") = some true)
    (xt_NoBranches : PySem.W.typeIn K (.ref C_NoBranches) = some (.type "type"))
    (xD_NoBranches : PySem.W.clsIn K C_NoBranches = some cdD_NoBranches)
    (xz_NoDeed_NoBranches : PySem.W.subIn K (.ref C_NoDeed) (.ref C_NoBranches) = some false)
    (xz_NoHand_NoBranches : PySem.W.subIn K (.ref C_NoHand) (.ref C_NoBranches) = some false)
    (xb_TooMany : PySem.W.subIn K (.ref C_TooMany) (.type "BaseException") = some true)
    (xt_TooMany : PySem.W.typeIn K (.ref C_TooMany) = some (.type "type"))
    (xD_TooMany : PySem.W.clsIn K C_TooMany = some cdD_TooMany)
    (xz_NoDeed_TooMany : PySem.W.subIn K (.ref C_NoDeed) (.ref C_TooMany) = some false)
    (xz_NoHand_TooMany : PySem.W.subIn K (.ref C_NoHand) (.ref C_TooMany) = some false)
    (pn_law__law_deed_right : P_law ≠ P__law_deed_right)
    (ne_NoHand_NoDeed : C_NoHand ≠ C_NoDeed)
    (ne_NoBook_NoDeed : C_NoBook ≠ C_NoDeed)
    (ne_NoBook_NoHand : C_NoBook ≠ C_NoHand)
    (ne_NotClosed_NoDeed : C_NotClosed ≠ C_NoDeed)
    (ne_NotClosed_NoHand : C_NotClosed ≠ C_NoHand)
    (ne_NotClosed_NoBook : C_NotClosed ≠ C_NoBook)
    (ne_Unseen_NoDeed : C_Unseen ≠ C_NoDeed)
    (ne_Unseen_NoHand : C_Unseen ≠ C_NoHand)
    (ne_Unseen_NoBook : C_Unseen ≠ C_NoBook)
    (ne_Unseen_NotClosed : C_Unseen ≠ C_NotClosed)
    (ne_NoBody_NoDeed : C_NoBody ≠ C_NoDeed)
    (ne_NoBody_NoHand : C_NoBody ≠ C_NoHand)
    (ne_NoBody_NoBook : C_NoBody ≠ C_NoBook)
    (ne_NoBody_NotClosed : C_NoBody ≠ C_NotClosed)
    (ne_NoBody_Unseen : C_NoBody ≠ C_Unseen)
    (ne_NoStamp_NoDeed : C_NoStamp ≠ C_NoDeed)
    (ne_NoStamp_NoHand : C_NoStamp ≠ C_NoHand)
    (ne_NoStamp_NoBook : C_NoStamp ≠ C_NoBook)
    (ne_NoStamp_NotClosed : C_NoStamp ≠ C_NotClosed)
    (ne_NoStamp_Unseen : C_NoStamp ≠ C_Unseen)
    (ne_NoStamp_NoBody : C_NoStamp ≠ C_NoBody)
    (ne_NoStamps_NoDeed : C_NoStamps ≠ C_NoDeed)
    (ne_NoStamps_NoHand : C_NoStamps ≠ C_NoHand)
    (ne_NoStamps_NoBook : C_NoStamps ≠ C_NoBook)
    (ne_NoStamps_NotClosed : C_NoStamps ≠ C_NotClosed)
    (ne_NoStamps_Unseen : C_NoStamps ≠ C_Unseen)
    (ne_NoStamps_NoBody : C_NoStamps ≠ C_NoBody)
    (ne_NoStamps_NoStamp : C_NoStamps ≠ C_NoStamp)
    (ne_NoMenu_NoDeed : C_NoMenu ≠ C_NoDeed)
    (ne_NoMenu_NoHand : C_NoMenu ≠ C_NoHand)
    (ne_NoMenu_NoBook : C_NoMenu ≠ C_NoBook)
    (ne_NoMenu_NotClosed : C_NoMenu ≠ C_NotClosed)
    (ne_NoMenu_Unseen : C_NoMenu ≠ C_Unseen)
    (ne_NoMenu_NoBody : C_NoMenu ≠ C_NoBody)
    (ne_NoMenu_NoStamp : C_NoMenu ≠ C_NoStamp)
    (ne_NoMenu_NoStamps : C_NoMenu ≠ C_NoStamps)
    (ne_NoPacket_NoDeed : C_NoPacket ≠ C_NoDeed)
    (ne_NoPacket_NoHand : C_NoPacket ≠ C_NoHand)
    (ne_NoPacket_NoBook : C_NoPacket ≠ C_NoBook)
    (ne_NoPacket_NotClosed : C_NoPacket ≠ C_NotClosed)
    (ne_NoPacket_Unseen : C_NoPacket ≠ C_Unseen)
    (ne_NoPacket_NoBody : C_NoPacket ≠ C_NoBody)
    (ne_NoPacket_NoStamp : C_NoPacket ≠ C_NoStamp)
    (ne_NoPacket_NoStamps : C_NoPacket ≠ C_NoStamps)
    (ne_NoPacket_NoMenu : C_NoPacket ≠ C_NoMenu)
    (ne_NothingBack_NoDeed : C_NothingBack ≠ C_NoDeed)
    (ne_NothingBack_NoHand : C_NothingBack ≠ C_NoHand)
    (ne_NothingBack_NoBook : C_NothingBack ≠ C_NoBook)
    (ne_NothingBack_NotClosed : C_NothingBack ≠ C_NotClosed)
    (ne_NothingBack_Unseen : C_NothingBack ≠ C_Unseen)
    (ne_NothingBack_NoBody : C_NothingBack ≠ C_NoBody)
    (ne_NothingBack_NoStamp : C_NothingBack ≠ C_NoStamp)
    (ne_NothingBack_NoStamps : C_NothingBack ≠ C_NoStamps)
    (ne_NothingBack_NoMenu : C_NothingBack ≠ C_NoMenu)
    (ne_NothingBack_NoPacket : C_NothingBack ≠ C_NoPacket)
    (ne_NoHands_NoDeed : C_NoHands ≠ C_NoDeed)
    (ne_NoHands_NoHand : C_NoHands ≠ C_NoHand)
    (ne_NoHands_NoBook : C_NoHands ≠ C_NoBook)
    (ne_NoHands_NotClosed : C_NoHands ≠ C_NotClosed)
    (ne_NoHands_Unseen : C_NoHands ≠ C_Unseen)
    (ne_NoHands_NoBody : C_NoHands ≠ C_NoBody)
    (ne_NoHands_NoStamp : C_NoHands ≠ C_NoStamp)
    (ne_NoHands_NoStamps : C_NoHands ≠ C_NoStamps)
    (ne_NoHands_NoMenu : C_NoHands ≠ C_NoMenu)
    (ne_NoHands_NoPacket : C_NoHands ≠ C_NoPacket)
    (ne_NoHands_NothingBack : C_NoHands ≠ C_NothingBack)
    (ne_NoBranches_NoDeed : C_NoBranches ≠ C_NoDeed)
    (ne_NoBranches_NoHand : C_NoBranches ≠ C_NoHand)
    (ne_NoBranches_NoBook : C_NoBranches ≠ C_NoBook)
    (ne_NoBranches_NotClosed : C_NoBranches ≠ C_NotClosed)
    (ne_NoBranches_Unseen : C_NoBranches ≠ C_Unseen)
    (ne_NoBranches_NoBody : C_NoBranches ≠ C_NoBody)
    (ne_NoBranches_NoStamp : C_NoBranches ≠ C_NoStamp)
    (ne_NoBranches_NoStamps : C_NoBranches ≠ C_NoStamps)
    (ne_NoBranches_NoMenu : C_NoBranches ≠ C_NoMenu)
    (ne_NoBranches_NoPacket : C_NoBranches ≠ C_NoPacket)
    (ne_NoBranches_NothingBack : C_NoBranches ≠ C_NothingBack)
    (ne_NoBranches_NoHands : C_NoBranches ≠ C_NoHands)
    (ne_TooMany_NoDeed : C_TooMany ≠ C_NoDeed)
    (ne_TooMany_NoHand : C_TooMany ≠ C_NoHand)
    (ne_TooMany_NoBook : C_TooMany ≠ C_NoBook)
    (ne_TooMany_NotClosed : C_TooMany ≠ C_NotClosed)
    (ne_TooMany_Unseen : C_TooMany ≠ C_Unseen)
    (ne_TooMany_NoBody : C_TooMany ≠ C_NoBody)
    (ne_TooMany_NoStamp : C_TooMany ≠ C_NoStamp)
    (ne_TooMany_NoStamps : C_TooMany ≠ C_NoStamps)
    (ne_TooMany_NoMenu : C_TooMany ≠ C_NoMenu)
    (ne_TooMany_NoPacket : C_TooMany ≠ C_NoPacket)
    (ne_TooMany_NothingBack : C_TooMany ≠ C_NothingBack)
    (ne_TooMany_NoHands : C_TooMany ≠ C_NoHands)
    (ne_TooMany_NoBranches : C_TooMany ≠ C_NoBranches) :
    ∃ (A : Ads) (nam : Nam), A.f_law = fa ∧ @TX nam l.prog w K mg A ∧ Tbs K h [(A.c__law_deed_right, A.P__law_deed_right), (A.c_law, A.P_law)] ∧ (∀ z ∈ nam.T, z.1 ∈ ([(A.c__law_deed_right, A.P__law_deed_right), (A.c_law, A.P_law)]).map (·.2)) ∧ (∀ (s : Shared) (v : Value), BindsTo s A.d_law ⟨[v], []⟩ [("script", v)]) ∧ ∀ base, (∀ z ∈ [(A.c__law_deed_right, A.P__law_deed_right), (A.c_law, A.P_law)], LamX.TabB base mg z.1 z.2) → TBs mg base A := by
  have e1 : f_law = fa := by
    have e := hfa.symm.trans (PySem.W.mg_of X G a_law)
    cases e
    rfl
  letI nam : Nam := ⟨[(P__law_deed_right, lq__law_deed_right), (P_law, lq_law)]⟩
  refine ⟨{ C_NoDeed := C_NoDeed, C_NoHand := C_NoHand, C_NoBook := C_NoBook, C_NotClosed := C_NotClosed, C_Unseen := C_Unseen, C_NoBody := C_NoBody, C_NoStamp := C_NoStamp, C_NoStamps := C_NoStamps, C_NoMenu := C_NoMenu, C_NoPacket := C_NoPacket, C_NothingBack := C_NothingBack, C_NoHands := C_NoHands, C_NoBranches := C_NoBranches, C_TooMany := C_TooMany, c__law_deed_right := ca__law_deed_right, P__law_deed_right := P__law_deed_right, c_law := ca_law, P_law := P_law, f__law_rounds := f__law_rounds, d__law_rounds := PySem.W.fnOf "_law_rounds" "_law_rounds" (defArgs s__law_rounds) (defBody s__law_rounds) (defScope s__law_rounds) .none kV__law_rounds dc__law_rounds pm__law_rounds an__law_rounds cd__law_rounds ct__law_rounds, f__law_pool := f__law_pool, d__law_pool := PySem.W.fnOf "_law_pool" "_law_pool" (defArgs s__law_pool) (defBody s__law_pool) (defScope s__law_pool) .none kV__law_pool dc__law_pool pm__law_pool an__law_pool cd__law_pool ct__law_pool, f__law_world := f__law_world, d__law_world := PySem.W.fnOf "_law_world" "_law_world" (defArgs s__law_world) (defBody s__law_world) (defScope s__law_world) .none kV__law_world dc__law_world pm__law_world an__law_world cd__law_world ct__law_world, f__law_take := f__law_take, d__law_take := PySem.W.fnOf "_law_take" "_law_take" (defArgs s__law_take) (defBody s__law_take) (defScope s__law_take) .none kV__law_take dc__law_take pm__law_take an__law_take cd__law_take ct__law_take, f__law_one := f__law_one, d__law_one := PySem.W.fnOf "_law_one" "_law_one" (defArgs s__law_one) (defBody s__law_one) (defScope s__law_one) .none kV__law_one dc__law_one pm__law_one an__law_one cd__law_one ct__law_one, f__law_do := f__law_do, d__law_do := PySem.W.fnOf "_law_do" "_law_do" (defArgs s__law_do) (defBody s__law_do) (defScope s__law_do) .none kV__law_do dc__law_do pm__law_do an__law_do cd__law_do ct__law_do, f__law_learn := f__law_learn, d__law_learn := PySem.W.fnOf "_law_learn" "_law_learn" (defArgs s__law_learn) (defBody s__law_learn) (defScope s__law_learn) .none kV__law_learn dc__law_learn pm__law_learn an__law_learn cd__law_learn ct__law_learn, f__law_content := f__law_content, d__law_content := PySem.W.fnOf "_law_content" "_law_content" (defArgs s__law_content) (defBody s__law_content) (defScope s__law_content) .none kV__law_content dc__law_content pm__law_content an__law_content cd__law_content ct__law_content, f__law_holders := f__law_holders, d__law_holders := PySem.W.fnOf "_law_holders" "_law_holders" (defArgs s__law_holders) (defBody s__law_holders) (defScope s__law_holders) .none kV__law_holders dc__law_holders pm__law_holders an__law_holders cd__law_holders ct__law_holders, f__law_made_body := f__law_made_body, d__law_made_body := PySem.W.fnOf "_law_made_body" "_law_made_body" (defArgs s__law_made_body) (defBody s__law_made_body) (defScope s__law_made_body) .none kV__law_made_body dc__law_made_body pm__law_made_body an__law_made_body cd__law_made_body ct__law_made_body, f__law_body := f__law_body, d__law_body := PySem.W.fnOf "_law_body" "_law_body" (defArgs s__law_body) (defBody s__law_body) (defScope s__law_body) .none kV__law_body dc__law_body pm__law_body an__law_body cd__law_body ct__law_body, f__law_seen_deeds := f__law_seen_deeds, d__law_seen_deeds := PySem.W.fnOf "_law_seen_deeds" "_law_seen_deeds" (defArgs s__law_seen_deeds) (defBody s__law_seen_deeds) (defScope s__law_seen_deeds) .none kV__law_seen_deeds dc__law_seen_deeds pm__law_seen_deeds an__law_seen_deeds cd__law_seen_deeds ct__law_seen_deeds, f__law_step := f__law_step, d__law_step := PySem.W.fnOf "_law_step" "_law_step" (defArgs s__law_step) (defBody s__law_step) (defScope s__law_step) .none kV__law_step dc__law_step pm__law_step an__law_step cd__law_step ct__law_step, f__law_drawn := f__law_drawn, d__law_drawn := PySem.W.fnOf "_law_drawn" "_law_drawn" (defArgs s__law_drawn) (defBody s__law_drawn) (defScope s__law_drawn) .none kV__law_drawn dc__law_drawn pm__law_drawn an__law_drawn cd__law_drawn ct__law_drawn, f__law_odd := f__law_odd, d__law_odd := PySem.W.fnOf "_law_odd" "_law_odd" (defArgs s__law_odd) (defBody s__law_odd) (defScope s__law_odd) .none kV__law_odd dc__law_odd pm__law_odd an__law_odd cd__law_odd ct__law_odd, f__law_bent := f__law_bent, d__law_bent := PySem.W.fnOf "_law_bent" "_law_bent" (defArgs s__law_bent) (defBody s__law_bent) (defScope s__law_bent) .none kV__law_bent dc__law_bent pm__law_bent an__law_bent cd__law_bent ct__law_bent, f_is_name := f_is_name, d_is_name := PySem.W.fnOf "is_name" "is_name" (defArgs s_is_name) (defBody s_is_name) (defScope s_is_name) .none kV_is_name dc_is_name pm_is_name an_is_name cd_is_name ct_is_name, f_is_tuple_of := f_is_tuple_of, d_is_tuple_of := PySem.W.fnOf "is_tuple_of" "is_tuple_of" (defArgs s_is_tuple_of) (defBody s_is_tuple_of) (defScope s_is_tuple_of) .none kV_is_tuple_of dc_is_tuple_of pm_is_tuple_of an_is_tuple_of cd_is_tuple_of ct_is_tuple_of, f_is_whole := f_is_whole, d_is_whole := PySem.W.fnOf "is_whole" "is_whole" (defArgs s_is_whole) (defBody s_is_whole) (defScope s_is_whole) .none kV_is_whole dc_is_whole pm_is_whole an_is_whole cd_is_whole ct_is_whole, f_is_number := f_is_number, d_is_number := PySem.W.fnOf "is_number" "is_number" (defArgs s_is_number) (defBody s_is_number) (defScope s_is_number) .none kV_is_number dc_is_number pm_is_number an_is_number cd_is_number ct_is_number, f_is_stamp := f_is_stamp, d_is_stamp := PySem.W.fnOf "is_stamp" "is_stamp" (defArgs s_is_stamp) (defBody s_is_stamp) (defScope s_is_stamp) .none kV_is_stamp dc_is_stamp pm_is_stamp an_is_stamp cd_is_stamp ct_is_stamp, f_is_place_name := f_is_place_name, d_is_place_name := PySem.W.fnOf "is_place_name" "is_place_name" (defArgs s_is_place_name) (defBody s_is_place_name) (defScope s_is_place_name) .none kV_is_place_name dc_is_place_name pm_is_place_name an_is_place_name cd_is_place_name ct_is_place_name, f_is_binder := f_is_binder, d_is_binder := PySem.W.fnOf "is_binder" "is_binder" (defArgs s_is_binder) (defBody s_is_binder) (defScope s_is_binder) .none kV_is_binder dc_is_binder pm_is_binder an_is_binder cd_is_binder ct_is_binder, f_is_content := f_is_content, d_is_content := PySem.W.fnOf "is_content" "is_content" (defArgs s_is_content) (defBody s_is_content) (defScope s_is_content) .none kV_is_content dc_is_content pm_is_content an_is_content cd_is_content ct_is_content, f_is_make := f_is_make, d_is_make := PySem.W.fnOf "is_make" "is_make" (defArgs s_is_make) (defBody s_is_make) (defScope s_is_make) .none kV_is_make dc_is_make pm_is_make an_is_make cd_is_make ct_is_make, f_is_placing_body := f_is_placing_body, d_is_placing_body := PySem.W.fnOf "is_placing_body" "is_placing_body" (defArgs s_is_placing_body) (defBody s_is_placing_body) (defScope s_is_placing_body) .none kV_is_placing_body dc_is_placing_body pm_is_placing_body an_is_placing_body cd_is_placing_body ct_is_placing_body, f_is_content_body := f_is_content_body, d_is_content_body := PySem.W.fnOf "is_content_body" "is_content_body" (defArgs s_is_content_body) (defBody s_is_content_body) (defScope s_is_content_body) .none kV_is_content_body dc_is_content_body pm_is_content_body an_is_content_body cd_is_content_body ct_is_content_body, f_is_body := f_is_body, d_is_body := PySem.W.fnOf "is_body" "is_body" (defArgs s_is_body) (defBody s_is_body) (defScope s_is_body) .none kV_is_body dc_is_body pm_is_body an_is_body cd_is_body ct_is_body, f_is_seen := f_is_seen, d_is_seen := PySem.W.fnOf "is_seen" "is_seen" (defArgs s_is_seen) (defBody s_is_seen) (defScope s_is_seen) .none kV_is_seen dc_is_seen pm_is_seen an_is_seen cd_is_seen ct_is_seen, f_is_deed := f_is_deed, d_is_deed := PySem.W.fnOf "is_deed" "is_deed" (defArgs s_is_deed) (defBody s_is_deed) (defScope s_is_deed) .none kV_is_deed dc_is_deed pm_is_deed an_is_deed cd_is_deed ct_is_deed, f_does_hold := f_does_hold, d_does_hold := PySem.W.fnOf "does_hold" "does_hold" (defArgs s_does_hold) (defBody s_does_hold) (defScope s_does_hold) .none kV_does_hold dc_does_hold pm_does_hold an_does_hold cd_does_hold ct_does_hold, f__law_a_name := f__law_a_name, d__law_a_name := PySem.W.fnOf "_law_a_name" "_law_a_name" (defArgs s__law_a_name) (defBody s__law_a_name) (defScope s__law_a_name) .none kV__law_a_name dc__law_a_name pm__law_a_name an__law_a_name cd__law_a_name ct__law_a_name, f__law_whole := f__law_whole, d__law_whole := PySem.W.fnOf "_law_whole" "_law_whole" (defArgs s__law_whole) (defBody s__law_whole) (defScope s__law_whole) .none kV__law_whole dc__law_whole pm__law_whole an__law_whole cd__law_whole ct__law_whole, f__law_a_stamp := f__law_a_stamp, d__law_a_stamp := PySem.W.fnOf "_law_a_stamp" "_law_a_stamp" (defArgs s__law_a_stamp) (defBody s__law_a_stamp) (defScope s__law_a_stamp) .none kV__law_a_stamp dc__law_a_stamp pm__law_a_stamp an__law_a_stamp cd__law_a_stamp ct__law_a_stamp, f__law_a_place := f__law_a_place, d__law_a_place := PySem.W.fnOf "_law_a_place" "_law_a_place" (defArgs s__law_a_place) (defBody s__law_a_place) (defScope s__law_a_place) .none kV__law_a_place dc__law_a_place pm__law_a_place an__law_a_place cd__law_a_place ct__law_a_place, f__law_a_content := f__law_a_content, d__law_a_content := PySem.W.fnOf "_law_a_content" "_law_a_content" (defArgs s__law_a_content) (defBody s__law_a_content) (defScope s__law_a_content) .none kV__law_a_content dc__law_a_content pm__law_a_content an__law_a_content cd__law_a_content ct__law_a_content, f__law_a_body := f__law_a_body, d__law_a_body := PySem.W.fnOf "_law_a_body" "_law_a_body" (defArgs s__law_a_body) (defBody s__law_a_body) (defScope s__law_a_body) .none kV__law_a_body dc__law_a_body pm__law_a_body an__law_a_body cd__law_a_body ct__law_a_body, f__law_a_deed := f__law_a_deed, d__law_a_deed := PySem.W.fnOf "_law_a_deed" "_law_a_deed" (defArgs s__law_a_deed) (defBody s__law_a_deed) (defScope s__law_a_deed) .none kV__law_a_deed dc__law_a_deed pm__law_a_deed an__law_a_deed cd__law_a_deed ct__law_a_deed, f__law_value_right := f__law_value_right, d__law_value_right := PySem.W.fnOf "_law_value_right" "_law_value_right" (defArgs s__law_value_right) (defBody s__law_value_right) (defScope s__law_value_right) .none kV__law_value_right dc__law_value_right pm__law_value_right an__law_value_right cd__law_value_right ct__law_value_right, f__law_caught := f__law_caught, d__law_caught := PySem.W.fnOf "_law_caught" "_law_caught" (defArgs s__law_caught) (defBody s__law_caught) (defScope s__law_caught) .none kV__law_caught dc__law_caught pm__law_caught an__law_caught cd__law_caught ct__law_caught, f_NoDeed___init__ := f_NoDeed___init__, d_NoDeed___init__ := PySem.W.ksFn "__init__" "NoDeed.__init__" (defArgs s_NoDeed___init__) (defBody s_NoDeed___init__) (defScope s_NoDeed___init__) .none kV_NoDeed___init__ dc_NoDeed___init__ pm_NoDeed___init__ an_NoDeed___init__ (.ref cda_NoDeed___init__) ct_NoDeed___init__ cc_NoDeed___init__, f_check_deed := f_check_deed, d_check_deed := PySem.W.fnOf "check_deed" "check_deed" (defArgs s_check_deed) (defBody s_check_deed) (defScope s_check_deed) .none kV_check_deed dc_check_deed pm_check_deed an_check_deed cd_check_deed ct_check_deed, f_is_mark := f_is_mark, d_is_mark := PySem.W.fnOf "is_mark" "is_mark" (defArgs s_is_mark) (defBody s_is_mark) (defScope s_is_mark) .none kV_is_mark dc_is_mark pm_is_mark an_is_mark cd_is_mark ct_is_mark, f_in_stamp_order := f_in_stamp_order, d_in_stamp_order := PySem.W.fnOf "in_stamp_order" "in_stamp_order" (defArgs s_in_stamp_order) (defBody s_in_stamp_order) (defScope s_in_stamp_order) .none kV_in_stamp_order dc_in_stamp_order pm_in_stamp_order an_in_stamp_order cd_in_stamp_order ct_in_stamp_order, f_names_in := f_names_in, d_names_in := PySem.W.fnOf "names_in" "names_in" (defArgs s_names_in) (defBody s_names_in) (defScope s_names_in) .none kV_names_in dc_names_in pm_names_in an_names_in cd_names_in ct_names_in, f_named_by := f_named_by, d_named_by := PySem.W.fnOf "named_by" "named_by" (defArgs s_named_by) (defBody s_named_by) (defScope s_named_by) .none kV_named_by dc_named_by pm_named_by an_named_by cd_named_by ct_named_by, f__law_stamps := f__law_stamps, d__law_stamps := PySem.W.fnOf "_law_stamps" "_law_stamps" (defArgs s__law_stamps) (defBody s__law_stamps) (defScope s__law_stamps) .none kV__law_stamps dc__law_stamps pm__law_stamps an__law_stamps cd__law_stamps ct__law_stamps, f__law_names := f__law_names, d__law_names := PySem.W.fnOf "_law_names" "_law_names" (defArgs s__law_names) (defBody s__law_names) (defScope s__law_names) .none kV__law_names dc__law_names pm__law_names an__law_names cd__law_names ct__law_names, f_NoHand___init__ := f_NoHand___init__, d_NoHand___init__ := PySem.W.ksFn "__init__" "NoHand.__init__" (defArgs s_NoHand___init__) (defBody s_NoHand___init__) (defScope s_NoHand___init__) .none kV_NoHand___init__ dc_NoHand___init__ pm_NoHand___init__ an_NoHand___init__ (.ref cda_NoHand___init__) ct_NoHand___init__ cc_NoHand___init__, f_check_hand := f_check_hand, d_check_hand := PySem.W.fnOf "check_hand" "check_hand" (defArgs s_check_hand) (defBody s_check_hand) (defScope s_check_hand) .none kV_check_hand dc_check_hand pm_check_hand an_check_hand cd_check_hand ct_check_hand, f_time_seen := f_time_seen, d_time_seen := PySem.W.fnOf "time_seen" "time_seen" (defArgs s_time_seen) (defBody s_time_seen) (defScope s_time_seen) .none kV_time_seen dc_time_seen pm_time_seen an_time_seen cd_time_seen ct_time_seen, f__law_deed_right := f__law_deed_right, d__law_deed_right := PySem.W.fnOf "_law_deed_right" "_law_deed_right" (defArgs s__law_deed_right) (defBody s__law_deed_right) (defScope s__law_deed_right) .none kV__law_deed_right dc__law_deed_right pm__law_deed_right an__law_deed_right (.ref ca__law_deed_right) ct__law_deed_right, f_law := f_law, d_law := PySem.W.fnOf "law" "law" (defArgs s_law) (defBody s_law) (defScope s_law) .none kV_law dc_law pm_law an_law (.ref ca_law) ct_law, g_HOLDERS := g_HOLDERS, g_MARK_WORDS := g_MARK_WORDS, g_ROOT := g_ROOT }, nam, e1, ?_, ⟨fun z hz => by
      simp only [List.mem_cons, List.not_mem_nil, or_false] at hz
      rcases hz with rfl | rfl
      · exact tb__law_deed_right
      · exact tb_law, fun z hz => by
      simp only [List.mem_cons, List.not_mem_nil, or_false] at hz
      rcases hz with rfl | rfl
      · exact tn__law_deed_right
      · exact tn_law, fun z hz => by
      simp only [List.mem_cons, List.not_mem_nil, or_false] at hz
      rcases hz with rfl | rfl
      · exact (PySem.W.codeHd_of_K X ch__law_deed_right)
      · exact (PySem.W.codeHd_of_K X ch_law)⟩, ?_, fun s v => .of_eq rfl, fun base hb => ?_⟩
  · exact {
    cd__law_deed_right := rfl
    n__law_deed_right := by
      show (P__law_deed_right, lq__law_deed_right) ∈ [(P__law_deed_right, lq__law_deed_right), (P_law, lq_law)]
      simp
    u__law_deed_right := fun z hz e => by
      have hz : z ∈ [(P__law_deed_right, lq__law_deed_right), (P_law, lq_law)] := hz
      simp only [List.mem_cons, List.not_mem_nil, or_false] at hz
      rcases hz with rfl | rfl
      · rfl
      · exact absurd e pn_law__law_deed_right
    cd_law := rfl
    n_law := by
      show (P_law, lq_law) ∈ [(P__law_deed_right, lq__law_deed_right), (P_law, lq_law)]
      simp
    u_law := fun z hz e => by
      have hz : z ∈ [(P__law_deed_right, lq__law_deed_right), (P_law, lq_law)] := hz
      simp only [List.mem_cons, List.not_mem_nil, or_false] at hz
      rcases hz with rfl | rfl
      · exact absurd e (Ne.symm pn_law__law_deed_right)
      · rfl
    F__law_rounds := fun_mk (st := s__law_rounds) l__law_rounds c__law_rounds k__law_rounds
    B__law_rounds := (fun_mk (st := s__law_rounds) l__law_rounds c__law_rounds k__law_rounds).binds (ps := ["script"]) fun _ _ _ _ _ _ us hl => match us, hl with | [_], _ => rfl
    m__law_rounds := PySem.W.mg_of X G a__law_rounds
    F__law_pool := fun_mk (st := s__law_pool) l__law_pool c__law_pool k__law_pool
    B__law_pool := (fun_mk (st := s__law_pool) l__law_pool c__law_pool k__law_pool).binds (ps := ["script", "k"]) fun _ _ _ _ _ _ us hl => match us, hl with | [_, _], _ => rfl
    m__law_pool := PySem.W.mg_of X G a__law_pool
    F__law_world := fun_mk (st := s__law_world) l__law_world c__law_world k__law_world
    B__law_world := (fun_mk (st := s__law_world) l__law_world c__law_world k__law_world).binds (ps := ["many"]) fun _ _ _ _ _ _ us hl => match us, hl with | [_], _ => rfl
    m__law_world := PySem.W.mg_of X G a__law_world
    F__law_take := fun_mk (st := s__law_take) l__law_take c__law_take k__law_take
    B__law_take := (fun_mk (st := s__law_take) l__law_take c__law_take k__law_take).binds (ps := ["source", "top"]) fun _ _ _ _ _ _ us hl => match us, hl with | [_, _], _ => rfl
    m__law_take := PySem.W.mg_of X G a__law_take
    F__law_one := fun_mk (st := s__law_one) l__law_one c__law_one k__law_one
    B__law_one := (fun_mk (st := s__law_one) l__law_one c__law_one k__law_one).binds (ps := ["source", "things"]) fun _ _ _ _ _ _ us hl => match us, hl with | [_, _], _ => rfl
    m__law_one := PySem.W.mg_of X G a__law_one
    F__law_do := fun_mk (st := s__law_do) l__law_do c__law_do k__law_do
    B__law_do := (fun_mk (st := s__law_do) l__law_do c__law_do k__law_do).binds (ps := ["source", "world", "hand", "body"]) fun _ _ _ _ _ _ us hl => match us, hl with | [_, _, _, _], _ => rfl
    m__law_do := PySem.W.mg_of X G a__law_do
    F__law_learn := fun_mk (st := s__law_learn) l__law_learn c__law_learn k__law_learn
    B__law_learn := (fun_mk (st := s__law_learn) l__law_learn c__law_learn k__law_learn).binds (ps := ["source", "world", "hand"]) fun _ _ _ _ _ _ us hl => match us, hl with | [_, _, _], _ => rfl
    m__law_learn := PySem.W.mg_of X G a__law_learn
    F__law_content := fun_mk (st := s__law_content) l__law_content c__law_content k__law_content
    B__law_content := (fun_mk (st := s__law_content) l__law_content c__law_content k__law_content).binds (ps := ["source", "kind", "some"]) fun _ _ _ _ _ _ us hl => match us, hl with | [_, _, _], _ => rfl
    m__law_content := PySem.W.mg_of X G a__law_content
    F__law_holders := fun_mk (st := s__law_holders) l__law_holders c__law_holders k__law_holders
    B__law_holders := (fun_mk (st := s__law_holders) l__law_holders c__law_holders k__law_holders).binds (ps := ["some"]) fun _ _ _ _ _ _ us hl => match us, hl with | [_], _ => rfl
    m__law_holders := PySem.W.mg_of X G a__law_holders
    F__law_made_body := fun_mk (st := s__law_made_body) l__law_made_body c__law_made_body k__law_made_body
    B__law_made_body := (fun_mk (st := s__law_made_body) l__law_made_body c__law_made_body k__law_made_body).binds (ps := ["source", "some"]) fun _ _ _ _ _ _ us hl => match us, hl with | [_, _], _ => rfl
    m__law_made_body := PySem.W.mg_of X G a__law_made_body
    F__law_body := fun_mk (st := s__law_body) l__law_body c__law_body k__law_body
    B__law_body := (fun_mk (st := s__law_body) l__law_body c__law_body k__law_body).binds (ps := ["source", "some"]) fun _ _ _ _ _ _ us hl => match us, hl with | [_, _], _ => rfl
    m__law_body := PySem.W.mg_of X G a__law_body
    F__law_seen_deeds := fun_mk (st := s__law_seen_deeds) l__law_seen_deeds c__law_seen_deeds k__law_seen_deeds
    B__law_seen_deeds := (fun_mk (st := s__law_seen_deeds) l__law_seen_deeds c__law_seen_deeds k__law_seen_deeds).binds (ps := ["world", "hand"]) fun _ _ _ _ _ _ us hl => match us, hl with | [_, _], _ => rfl
    m__law_seen_deeds := PySem.W.mg_of X G a__law_seen_deeds
    F__law_step := fun_mk (st := s__law_step) l__law_step c__law_step k__law_step
    B__law_step := (fun_mk (st := s__law_step) l__law_step c__law_step k__law_step).binds (ps := ["source", "world"]) fun _ _ _ _ _ _ us hl => match us, hl with | [_, _], _ => rfl
    m__law_step := PySem.W.mg_of X G a__law_step
    F__law_drawn := fun_mk (st := s__law_drawn) l__law_drawn c__law_drawn k__law_drawn
    B__law_drawn := (fun_mk (st := s__law_drawn) l__law_drawn c__law_drawn k__law_drawn).binds (ps := ["source", "most", "many"]) fun _ _ _ _ _ _ us hl => match us, hl with | [_, _, _], _ => rfl
    m__law_drawn := PySem.W.mg_of X G a__law_drawn
    F__law_odd := fun_mk (st := s__law_odd) l__law_odd c__law_odd k__law_odd
    B__law_odd := (fun_mk (st := s__law_odd) l__law_odd c__law_odd k__law_odd).binds (ps := ["source"]) fun _ _ _ _ _ _ us hl => match us, hl with | [_], _ => rfl
    m__law_odd := PySem.W.mg_of X G a__law_odd
    F__law_bent := fun_mk (st := s__law_bent) l__law_bent c__law_bent k__law_bent
    B__law_bent := (fun_mk (st := s__law_bent) l__law_bent c__law_bent k__law_bent).binds (ps := ["source", "thing"]) fun _ _ _ _ _ _ us hl => match us, hl with | [_, _], _ => rfl
    m__law_bent := PySem.W.mg_of X G a__law_bent
    F_is_name := fun_mk (st := s_is_name) l_is_name c_is_name k_is_name
    B_is_name := (fun_mk (st := s_is_name) l_is_name c_is_name k_is_name).binds (ps := ["value"]) fun _ _ _ _ _ _ us hl => match us, hl with | [_], _ => rfl
    m_is_name := PySem.W.mg_of X G a_is_name
    F_is_tuple_of := fun_mk (st := s_is_tuple_of) l_is_tuple_of c_is_tuple_of k_is_tuple_of
    B_is_tuple_of := (fun_mk (st := s_is_tuple_of) l_is_tuple_of c_is_tuple_of k_is_tuple_of).binds (ps := ["value", "many"]) fun _ _ _ _ _ _ us hl => match us, hl with | [_, _], _ => rfl
    m_is_tuple_of := PySem.W.mg_of X G a_is_tuple_of
    F_is_whole := fun_mk (st := s_is_whole) l_is_whole c_is_whole k_is_whole
    B_is_whole := (fun_mk (st := s_is_whole) l_is_whole c_is_whole k_is_whole).binds (ps := ["value"]) fun _ _ _ _ _ _ us hl => match us, hl with | [_], _ => rfl
    m_is_whole := PySem.W.mg_of X G a_is_whole
    F_is_number := fun_mk (st := s_is_number) l_is_number c_is_number k_is_number
    B_is_number := (fun_mk (st := s_is_number) l_is_number c_is_number k_is_number).binds (ps := ["value", "low", "high"]) fun _ _ _ _ _ _ us hl => match us, hl with | [_, _, _], _ => rfl
    m_is_number := PySem.W.mg_of X G a_is_number
    F_is_stamp := fun_mk (st := s_is_stamp) l_is_stamp c_is_stamp k_is_stamp
    B_is_stamp := (fun_mk (st := s_is_stamp) l_is_stamp c_is_stamp k_is_stamp).binds (ps := ["value"]) fun _ _ _ _ _ _ us hl => match us, hl with | [_], _ => rfl
    m_is_stamp := PySem.W.mg_of X G a_is_stamp
    F_is_place_name := fun_mk (st := s_is_place_name) l_is_place_name c_is_place_name k_is_place_name
    B_is_place_name := (fun_mk (st := s_is_place_name) l_is_place_name c_is_place_name k_is_place_name).binds (ps := ["value"]) fun _ _ _ _ _ _ us hl => match us, hl with | [_], _ => rfl
    m_is_place_name := PySem.W.mg_of X G a_is_place_name
    F_is_binder := fun_mk (st := s_is_binder) l_is_binder c_is_binder k_is_binder
    B_is_binder := (fun_mk (st := s_is_binder) l_is_binder c_is_binder k_is_binder).binds (ps := ["value"]) fun _ _ _ _ _ _ us hl => match us, hl with | [_], _ => rfl
    m_is_binder := PySem.W.mg_of X G a_is_binder
    F_is_content := fun_mk (st := s_is_content) l_is_content c_is_content k_is_content
    B_is_content := (fun_mk (st := s_is_content) l_is_content c_is_content k_is_content).binds (ps := ["kind", "content"]) fun _ _ _ _ _ _ us hl => match us, hl with | [_, _], _ => rfl
    m_is_content := PySem.W.mg_of X G a_is_content
    F_is_make := fun_mk (st := s_is_make) l_is_make c_is_make k_is_make
    B_is_make := (fun_mk (st := s_is_make) l_is_make c_is_make k_is_make).binds (ps := ["body"]) fun _ _ _ _ _ _ us hl => match us, hl with | [_], _ => rfl
    m_is_make := PySem.W.mg_of X G a_is_make
    F_is_placing_body := fun_mk (st := s_is_placing_body) l_is_placing_body c_is_placing_body k_is_placing_body
    B_is_placing_body := (fun_mk (st := s_is_placing_body) l_is_placing_body c_is_placing_body k_is_placing_body).binds (ps := ["body"]) fun _ _ _ _ _ _ us hl => match us, hl with | [_], _ => rfl
    m_is_placing_body := PySem.W.mg_of X G a_is_placing_body
    F_is_content_body := fun_mk (st := s_is_content_body) l_is_content_body c_is_content_body k_is_content_body
    B_is_content_body := (fun_mk (st := s_is_content_body) l_is_content_body c_is_content_body k_is_content_body).binds (ps := ["body"]) fun _ _ _ _ _ _ us hl => match us, hl with | [_], _ => rfl
    m_is_content_body := PySem.W.mg_of X G a_is_content_body
    F_is_body := fun_mk (st := s_is_body) l_is_body c_is_body k_is_body
    B_is_body := (fun_mk (st := s_is_body) l_is_body c_is_body k_is_body).binds (ps := ["value"]) fun _ _ _ _ _ _ us hl => match us, hl with | [_], _ => rfl
    m_is_body := PySem.W.mg_of X G a_is_body
    F_is_seen := fun_mk (st := s_is_seen) l_is_seen c_is_seen k_is_seen
    B_is_seen := (fun_mk (st := s_is_seen) l_is_seen c_is_seen k_is_seen).binds (ps := ["value", "stamp"]) fun _ _ _ _ _ _ us hl => match us, hl with | [_, _], _ => rfl
    m_is_seen := PySem.W.mg_of X G a_is_seen
    F_is_deed := fun_mk (st := s_is_deed) l_is_deed c_is_deed k_is_deed
    B_is_deed := (fun_mk (st := s_is_deed) l_is_deed c_is_deed k_is_deed).binds (ps := ["value"]) fun _ _ _ _ _ _ us hl => match us, hl with | [_], _ => rfl
    m_is_deed := PySem.W.mg_of X G a_is_deed
    F_does_hold := fun_mk (st := s_does_hold) l_does_hold c_does_hold k_does_hold
    B_does_hold := (fun_mk (st := s_does_hold) l_does_hold c_does_hold k_does_hold).binds (ps := ["kind"]) fun _ _ _ _ _ _ us hl => match us, hl with | [_], _ => rfl
    m_does_hold := PySem.W.mg_of X G a_does_hold
    F__law_a_name := fun_mk (st := s__law_a_name) l__law_a_name c__law_a_name k__law_a_name
    B__law_a_name := (fun_mk (st := s__law_a_name) l__law_a_name c__law_a_name k__law_a_name).binds (ps := ["value"]) fun _ _ _ _ _ _ us hl => match us, hl with | [_], _ => rfl
    m__law_a_name := PySem.W.mg_of X G a__law_a_name
    F__law_whole := fun_mk (st := s__law_whole) l__law_whole c__law_whole k__law_whole
    B__law_whole := (fun_mk (st := s__law_whole) l__law_whole c__law_whole k__law_whole).binds (ps := ["value", "low", "high"]) fun _ _ _ _ _ _ us hl => match us, hl with | [_, _, _], _ => rfl
    m__law_whole := PySem.W.mg_of X G a__law_whole
    F__law_a_stamp := fun_mk (st := s__law_a_stamp) l__law_a_stamp c__law_a_stamp k__law_a_stamp
    B__law_a_stamp := (fun_mk (st := s__law_a_stamp) l__law_a_stamp c__law_a_stamp k__law_a_stamp).binds (ps := ["value"]) fun _ _ _ _ _ _ us hl => match us, hl with | [_], _ => rfl
    m__law_a_stamp := PySem.W.mg_of X G a__law_a_stamp
    F__law_a_place := fun_mk (st := s__law_a_place) l__law_a_place c__law_a_place k__law_a_place
    B__law_a_place := (fun_mk (st := s__law_a_place) l__law_a_place c__law_a_place k__law_a_place).binds (ps := ["value"]) fun _ _ _ _ _ _ us hl => match us, hl with | [_], _ => rfl
    m__law_a_place := PySem.W.mg_of X G a__law_a_place
    F__law_a_content := fun_mk (st := s__law_a_content) l__law_a_content c__law_a_content k__law_a_content
    B__law_a_content := (fun_mk (st := s__law_a_content) l__law_a_content c__law_a_content k__law_a_content).binds (ps := ["kind", "value"]) fun _ _ _ _ _ _ us hl => match us, hl with | [_, _], _ => rfl
    m__law_a_content := PySem.W.mg_of X G a__law_a_content
    F__law_a_body := fun_mk (st := s__law_a_body) l__law_a_body c__law_a_body k__law_a_body
    B__law_a_body := (fun_mk (st := s__law_a_body) l__law_a_body c__law_a_body k__law_a_body).binds (ps := ["value"]) fun _ _ _ _ _ _ us hl => match us, hl with | [_], _ => rfl
    m__law_a_body := PySem.W.mg_of X G a__law_a_body
    F__law_a_deed := fun_mk (st := s__law_a_deed) l__law_a_deed c__law_a_deed k__law_a_deed
    B__law_a_deed := (fun_mk (st := s__law_a_deed) l__law_a_deed c__law_a_deed k__law_a_deed).binds (ps := ["value"]) fun _ _ _ _ _ _ us hl => match us, hl with | [_], _ => rfl
    m__law_a_deed := PySem.W.mg_of X G a__law_a_deed
    F__law_value_right := fun_mk (st := s__law_value_right) l__law_value_right c__law_value_right k__law_value_right
    B__law_value_right := (fun_mk (st := s__law_value_right) l__law_value_right c__law_value_right k__law_value_right).binds (ps := ["value"]) fun _ _ _ _ _ _ us hl => match us, hl with | [_], _ => rfl
    m__law_value_right := PySem.W.mg_of X G a__law_value_right
    F__law_caught := fun_mk (st := s__law_caught) l__law_caught c__law_caught k__law_caught
    B__law_caught := (fun_mk (st := s__law_caught) l__law_caught c__law_caught k__law_caught).binds (ps := ["call"]) fun _ _ _ _ _ _ us hl => match us, hl with | [_], _ => rfl
    m__law_caught := PySem.W.mg_of X G a__law_caught
    F_check_deed := fun_mk (st := s_check_deed) l_check_deed c_check_deed k_check_deed
    B_check_deed := (fun_mk (st := s_check_deed) l_check_deed c_check_deed k_check_deed).binds (ps := ["deed"]) fun _ _ _ _ _ _ us hl => match us, hl with | [_], _ => rfl
    m_check_deed := PySem.W.mg_of X G a_check_deed
    F_is_mark := fun_mk (st := s_is_mark) l_is_mark c_is_mark k_is_mark
    B_is_mark := (fun_mk (st := s_is_mark) l_is_mark c_is_mark k_is_mark).binds (ps := ["deed"]) fun _ _ _ _ _ _ us hl => match us, hl with | [_], _ => rfl
    m_is_mark := PySem.W.mg_of X G a_is_mark
    F_in_stamp_order := fun_mk (st := s_in_stamp_order) l_in_stamp_order c_in_stamp_order k_in_stamp_order
    B_in_stamp_order := (fun_mk (st := s_in_stamp_order) l_in_stamp_order c_in_stamp_order k_in_stamp_order).binds (ps := ["some"]) fun _ _ _ _ _ _ us hl => match us, hl with | [_], _ => rfl
    m_in_stamp_order := PySem.W.mg_of X G a_in_stamp_order
    F_names_in := fun_mk (st := s_names_in) l_names_in c_names_in k_names_in
    B_names_in := (fun_mk (st := s_names_in) l_names_in c_names_in k_names_in).binds (ps := ["body"]) fun _ _ _ _ _ _ us hl => match us, hl with | [_], _ => rfl
    m_names_in := PySem.W.mg_of X G a_names_in
    F_named_by := fun_mk (st := s_named_by) l_named_by c_named_by k_named_by
    B_named_by := (fun_mk (st := s_named_by) l_named_by c_named_by k_named_by).binds (ps := ["deed"]) fun _ _ _ _ _ _ us hl => match us, hl with | [_], _ => rfl
    m_named_by := PySem.W.mg_of X G a_named_by
    F__law_stamps := fun_mk (st := s__law_stamps) l__law_stamps c__law_stamps k__law_stamps
    B__law_stamps := (fun_mk (st := s__law_stamps) l__law_stamps c__law_stamps k__law_stamps).binds (ps := ["some"]) fun _ _ _ _ _ _ us hl => match us, hl with | [_], _ => rfl
    m__law_stamps := PySem.W.mg_of X G a__law_stamps
    F__law_names := fun_mk (st := s__law_names) l__law_names c__law_names k__law_names
    B__law_names := (fun_mk (st := s__law_names) l__law_names c__law_names k__law_names).binds (ps := ["deed"]) fun _ _ _ _ _ _ us hl => match us, hl with | [_], _ => rfl
    m__law_names := PySem.W.mg_of X G a__law_names
    F_check_hand := fun_mk (st := s_check_hand) l_check_hand c_check_hand k_check_hand
    B_check_hand := (fun_mk (st := s_check_hand) l_check_hand c_check_hand k_check_hand).binds (ps := ["hand"]) fun _ _ _ _ _ _ us hl => match us, hl with | [_], _ => rfl
    m_check_hand := PySem.W.mg_of X G a_check_hand
    F_time_seen := fun_mk (st := s_time_seen) l_time_seen c_time_seen k_time_seen
    B_time_seen := (fun_mk (st := s_time_seen) l_time_seen c_time_seen k_time_seen).binds (ps := ["deed", "hand"]) fun _ _ _ _ _ _ us hl => match us, hl with | [_, _], _ => rfl
    m_time_seen := PySem.W.mg_of X G a_time_seen
    F__law_deed_right := fun_mk (st := s__law_deed_right) l__law_deed_right c__law_deed_right k__law_deed_right
    B__law_deed_right := (fun_mk (st := s__law_deed_right) l__law_deed_right c__law_deed_right k__law_deed_right).binds (ps := ["source", "deed"]) fun _ _ _ _ _ _ us hl => match us, hl with | [_, _], _ => rfl
    m__law_deed_right := PySem.W.mg_of X G a__law_deed_right
    F_law := fun_mk (st := s_law) l_law c_law k_law
    B_law := (fun_mk (st := s_law) l_law c_law k_law).binds (ps := ["script"]) fun _ _ _ _ _ _ us hl => match us, hl with | [_], _ => rfl
    m_law := PySem.W.mg_of X G a_law
    c_NoDeed := PySem.W.mg_of X G aC_NoDeed
    c_NoHand := PySem.W.mg_of X G aC_NoHand
    c_NoBook := PySem.W.mg_of X G aC_NoBook
    c_NotClosed := PySem.W.mg_of X G aC_NotClosed
    c_Unseen := PySem.W.mg_of X G aC_Unseen
    c_NoBody := PySem.W.mg_of X G aC_NoBody
    c_NoStamp := PySem.W.mg_of X G aC_NoStamp
    c_NoStamps := PySem.W.mg_of X G aC_NoStamps
    c_NoMenu := PySem.W.mg_of X G aC_NoMenu
    c_NoPacket := PySem.W.mg_of X G aC_NoPacket
    c_NothingBack := PySem.W.mg_of X G aC_NothingBack
    c_NoHands := PySem.W.mg_of X G aC_NoHands
    c_NoBranches := PySem.W.mg_of X G aC_NoBranches
    c_TooMany := PySem.W.mg_of X G aC_TooMany
    M_NoBook := fun c b e => by
      unfold mt_NoBook at e
      split at e
      · rename_i hz
        cases e
        subst hz
        exact exm_of xb_NoBook xD_NoBook xt_NoBook xz_NoDeed_NoBook
      split at e
      · rename_i hz
        cases e
        subst hz
        exact exm_of xb_NoBook xD_NoBook xt_NoBook xz_NoHand_NoBook
      cases e
    M_NotClosed := fun c b e => by
      unfold mt_NotClosed at e
      split at e
      · rename_i hz
        cases e
        subst hz
        exact exm_of xb_NotClosed xD_NotClosed xt_NotClosed xz_NoDeed_NotClosed
      split at e
      · rename_i hz
        cases e
        subst hz
        exact exm_of xb_NotClosed xD_NotClosed xt_NotClosed xz_NoHand_NotClosed
      cases e
    M_Unseen := fun c b e => by
      unfold mt_Unseen at e
      split at e
      · rename_i hz
        cases e
        subst hz
        exact exm_of xb_Unseen xD_Unseen xt_Unseen xz_NoDeed_Unseen
      split at e
      · rename_i hz
        cases e
        subst hz
        exact exm_of xb_Unseen xD_Unseen xt_Unseen xz_NoHand_Unseen
      cases e
    M_NoBody := fun c b e => by
      unfold mt_NoBody at e
      split at e
      · rename_i hz
        cases e
        subst hz
        exact exm_of xb_NoBody xD_NoBody xt_NoBody xz_NoDeed_NoBody
      split at e
      · rename_i hz
        cases e
        subst hz
        exact exm_of xb_NoBody xD_NoBody xt_NoBody xz_NoHand_NoBody
      cases e
    M_NoStamp := fun c b e => by
      unfold mt_NoStamp at e
      split at e
      · rename_i hz
        cases e
        subst hz
        exact exm_of xb_NoStamp xD_NoStamp xt_NoStamp xz_NoDeed_NoStamp
      split at e
      · rename_i hz
        cases e
        subst hz
        exact exm_of xb_NoStamp xD_NoStamp xt_NoStamp xz_NoHand_NoStamp
      cases e
    M_NoStamps := fun c b e => by
      unfold mt_NoStamps at e
      split at e
      · rename_i hz
        cases e
        subst hz
        exact exm_of xb_NoStamps xD_NoStamps xt_NoStamps xz_NoDeed_NoStamps
      split at e
      · rename_i hz
        cases e
        subst hz
        exact exm_of xb_NoStamps xD_NoStamps xt_NoStamps xz_NoHand_NoStamps
      cases e
    M_NoMenu := fun c b e => by
      unfold mt_NoMenu at e
      split at e
      · rename_i hz
        cases e
        subst hz
        exact exm_of xb_NoMenu xD_NoMenu xt_NoMenu xz_NoDeed_NoMenu
      split at e
      · rename_i hz
        cases e
        subst hz
        exact exm_of xb_NoMenu xD_NoMenu xt_NoMenu xz_NoHand_NoMenu
      cases e
    M_NoPacket := fun c b e => by
      unfold mt_NoPacket at e
      split at e
      · rename_i hz
        cases e
        subst hz
        exact exm_of xb_NoPacket xD_NoPacket xt_NoPacket xz_NoDeed_NoPacket
      split at e
      · rename_i hz
        cases e
        subst hz
        exact exm_of xb_NoPacket xD_NoPacket xt_NoPacket xz_NoHand_NoPacket
      cases e
    M_NothingBack := fun c b e => by
      unfold mt_NothingBack at e
      split at e
      · rename_i hz
        cases e
        subst hz
        exact exm_of xb_NothingBack xD_NothingBack xt_NothingBack xz_NoDeed_NothingBack
      split at e
      · rename_i hz
        cases e
        subst hz
        exact exm_of xb_NothingBack xD_NothingBack xt_NothingBack xz_NoHand_NothingBack
      cases e
    M_NoHands := fun c b e => by
      unfold mt_NoHands at e
      split at e
      · rename_i hz
        cases e
        subst hz
        exact exm_of xb_NoHands xD_NoHands xt_NoHands xz_NoDeed_NoHands
      split at e
      · rename_i hz
        cases e
        subst hz
        exact exm_of xb_NoHands xD_NoHands xt_NoHands xz_NoHand_NoHands
      cases e
    M_NoBranches := fun c b e => by
      unfold mt_NoBranches at e
      split at e
      · rename_i hz
        cases e
        subst hz
        exact exm_of xb_NoBranches xD_NoBranches xt_NoBranches xz_NoDeed_NoBranches
      split at e
      · rename_i hz
        cases e
        subst hz
        exact exm_of xb_NoBranches xD_NoBranches xt_NoBranches xz_NoHand_NoBranches
      cases e
    M_TooMany := fun c b e => by
      unfold mt_TooMany at e
      split at e
      · rename_i hz
        cases e
        subst hz
        exact exm_of xb_TooMany xD_TooMany xt_TooMany xz_NoDeed_TooMany
      split at e
      · rename_i hz
        cases e
        subst hz
        exact exm_of xb_TooMany xD_TooMany xt_TooMany xz_NoHand_TooMany
      cases e
    g_HOLDERS := PySem.W.mg_of X G ag_HOLDERS
    t_HOLDERS := tupC_of (vs := [V.str ("block" : Str), V.str ("let" : Str), V.str ("sum" : Str), V.str ("product" : Str)]) lg_HOLDERS (show 4 ≤ sizeLine by decide) (.cons ⟨_, rfl⟩ (.cons ⟨_, rfl⟩ (.cons ⟨_, rfl⟩ (.cons ⟨_, rfl⟩ .nil)))) (fun r F => (.cons (.str _) (.cons (.str _) (.cons (.str _) (.cons (.str _) .nil)))))
    g_MARK_WORDS := PySem.W.mg_of X G ag_MARK_WORDS
    t_MARK_WORDS := tupC_of (vs := [V.str ("undo" : Str), V.str ("redo" : Str)]) lg_MARK_WORDS (show 2 ≤ sizeLine by decide) (.cons ⟨_, rfl⟩ (.cons ⟨_, rfl⟩ .nil)) (fun r F => (.cons (.str _) (.cons (.str _) .nil)))
    g_MOST_HAND := ⟨_, PySem.W.mg_of X G ag_MOST_HAND⟩
    g_MOST_KEY := ⟨_, PySem.W.mg_of X G ag_MOST_KEY⟩
    g_MOST_TIME := ⟨_, PySem.W.mg_of X G ag_MOST_TIME⟩
    g_MOST_VALUE := ⟨_, PySem.W.mg_of X G ag_MOST_VALUE⟩
    g_NAME_LETTERS := ⟨_, PySem.W.mg_of X G ag_NAME_LETTERS⟩
    g_ROOT := PySem.W.mg_of X G ag_ROOT
    t_ROOT := tupC_of (vs := [V.int 0, V.int 0]) lg_ROOT (show 2 ≤ sizeLine by decide) (.cons ⟨_, rfl⟩ (.cons ⟨_, rfl⟩ .nil)) (fun r F => (.cons (.int _) (.cons (.int _) .nil)))
    b_all := PySem.W.mg_none_of X G ab_all
    b_bool := PySem.W.mg_none_of X G ab_bool
    b_dict := PySem.W.mg_none_of X G ab_dict
    b_int := PySem.W.mg_none_of X G ab_int
    b_isinstance := PySem.W.mg_none_of X G ab_isinstance
    b_len := PySem.W.mg_none_of X G ab_len
    b_list := PySem.W.mg_none_of X G ab_list
    b_max := PySem.W.mg_none_of X G ab_max
    b_min := PySem.W.mg_none_of X G ab_min
    b_range := PySem.W.mg_none_of X G ab_range
    b_repr := PySem.W.mg_none_of X G ab_repr
    b_sorted := PySem.W.mg_none_of X G ab_sorted
    b_str := PySem.W.mg_none_of X G ab_str
    b_tuple := PySem.W.mg_none_of X G ab_tuple
    S_NoDeed := ⟨⟨⟨_, _, _, _, _, _, _, _, _, _, _, _, _, _, _, xl_NoDeed, xr_NoDeed⟩, xs_NoDeed, xb_NoDeed, xt_NoDeed, xk_NoDeed⟩, xv_NoDeed, xu_NoDeed, xm_NoDeed, xn_NoDeed⟩
    I_NoDeed := a_NoDeed___init__
    Y_NoDeed := xy_NoDeed
    B_NoDeed___init__ := (show Binds K (PySem.W.ksFn "__init__" "NoDeed.__init__" (defArgs s_NoDeed___init__) (defBody s_NoDeed___init__) (defScope s_NoDeed___init__) .none kV_NoDeed___init__ dc_NoDeed___init__ pm_NoDeed___init__ an_NoDeed___init__ (.ref cda_NoDeed___init__) ct_NoDeed___init__ cc_NoDeed___init__) ["self", "told"] [] from Binds.all fun us hl => match us, hl with | [_, _], _ => rfl)
    E_NoDeed := fun base => sup_fn (k := 0) l_NoDeed___init__ c_NoDeed___init__ (NdefX.nscope_by (by decide +kernel)) rfl rfl xc_NoDeed xf_NoDeed xi_NoDeed xe_NoDeed xD_NoDeed (PySem.W.mg_none_of X G asup) rfl htop aany (by decide) (by decide) (by decide) (by decide) (by decide +kernel) (fun _ => rfl) _ (fun _ => rfl)
    X_NoDeed := ⟨xa_NoDeed, xg_NoDeed, xb_NoDeed, xh_NoDeed⟩
    M_NoDeed := fun c b e => by
      unfold mt_NoDeed at e
      split at e
      · rename_i hz
        cases e
        subst hz
        exact exm_of xb_NoDeed xD_NoDeed xt_NoDeed xz_NoDeed_NoDeed
      split at e
      · rename_i hz
        cases e
        subst hz
        exact exm_of xb_NoDeed xD_NoDeed xt_NoDeed xz_NoHand_NoDeed
      cases e
    S_NoHand := ⟨⟨⟨_, _, _, _, _, _, _, _, _, _, _, _, _, _, _, xl_NoHand, xr_NoHand⟩, xs_NoHand, xb_NoHand, xt_NoHand, xk_NoHand⟩, xv_NoHand, xu_NoHand, xm_NoHand, xn_NoHand⟩
    I_NoHand := a_NoHand___init__
    Y_NoHand := xy_NoHand
    B_NoHand___init__ := (show Binds K (PySem.W.ksFn "__init__" "NoHand.__init__" (defArgs s_NoHand___init__) (defBody s_NoHand___init__) (defScope s_NoHand___init__) .none kV_NoHand___init__ dc_NoHand___init__ pm_NoHand___init__ an_NoHand___init__ (.ref cda_NoHand___init__) ct_NoHand___init__ cc_NoHand___init__) ["self", "told"] [] from Binds.all fun us hl => match us, hl with | [_, _], _ => rfl)
    E_NoHand := fun base => sup_fn (k := 0) l_NoHand___init__ c_NoHand___init__ (NdefX.nscope_by (by decide +kernel)) rfl rfl xc_NoHand xf_NoHand xi_NoHand xe_NoHand xD_NoHand (PySem.W.mg_none_of X G asup) rfl htop aany (by decide) (by decide) (by decide) (by decide) (by decide +kernel) (fun _ => rfl) _ (fun _ => rfl)
    X_NoHand := ⟨xa_NoHand, xg_NoHand, xb_NoHand, xh_NoHand⟩
    M_NoHand := fun c b e => by
      unfold mt_NoHand at e
      split at e
      · rename_i hz
        cases e
        subst hz
        exact exm_of xb_NoHand xD_NoHand xt_NoHand xz_NoHand_NoHand
      split at e
      · rename_i hz
        cases e
        subst hz
        exact exm_of xb_NoHand xD_NoHand xt_NoHand xz_NoDeed_NoHand
      cases e
    ne_NoHand_NoDeed := ne_NoHand_NoDeed
    ne_NoBook_NoDeed := ne_NoBook_NoDeed
    ne_NoBook_NoHand := ne_NoBook_NoHand
    ne_NotClosed_NoDeed := ne_NotClosed_NoDeed
    ne_NotClosed_NoHand := ne_NotClosed_NoHand
    ne_NotClosed_NoBook := ne_NotClosed_NoBook
    ne_Unseen_NoDeed := ne_Unseen_NoDeed
    ne_Unseen_NoHand := ne_Unseen_NoHand
    ne_Unseen_NoBook := ne_Unseen_NoBook
    ne_Unseen_NotClosed := ne_Unseen_NotClosed
    ne_NoBody_NoDeed := ne_NoBody_NoDeed
    ne_NoBody_NoHand := ne_NoBody_NoHand
    ne_NoBody_NoBook := ne_NoBody_NoBook
    ne_NoBody_NotClosed := ne_NoBody_NotClosed
    ne_NoBody_Unseen := ne_NoBody_Unseen
    ne_NoStamp_NoDeed := ne_NoStamp_NoDeed
    ne_NoStamp_NoHand := ne_NoStamp_NoHand
    ne_NoStamp_NoBook := ne_NoStamp_NoBook
    ne_NoStamp_NotClosed := ne_NoStamp_NotClosed
    ne_NoStamp_Unseen := ne_NoStamp_Unseen
    ne_NoStamp_NoBody := ne_NoStamp_NoBody
    ne_NoStamps_NoDeed := ne_NoStamps_NoDeed
    ne_NoStamps_NoHand := ne_NoStamps_NoHand
    ne_NoStamps_NoBook := ne_NoStamps_NoBook
    ne_NoStamps_NotClosed := ne_NoStamps_NotClosed
    ne_NoStamps_Unseen := ne_NoStamps_Unseen
    ne_NoStamps_NoBody := ne_NoStamps_NoBody
    ne_NoStamps_NoStamp := ne_NoStamps_NoStamp
    ne_NoMenu_NoDeed := ne_NoMenu_NoDeed
    ne_NoMenu_NoHand := ne_NoMenu_NoHand
    ne_NoMenu_NoBook := ne_NoMenu_NoBook
    ne_NoMenu_NotClosed := ne_NoMenu_NotClosed
    ne_NoMenu_Unseen := ne_NoMenu_Unseen
    ne_NoMenu_NoBody := ne_NoMenu_NoBody
    ne_NoMenu_NoStamp := ne_NoMenu_NoStamp
    ne_NoMenu_NoStamps := ne_NoMenu_NoStamps
    ne_NoPacket_NoDeed := ne_NoPacket_NoDeed
    ne_NoPacket_NoHand := ne_NoPacket_NoHand
    ne_NoPacket_NoBook := ne_NoPacket_NoBook
    ne_NoPacket_NotClosed := ne_NoPacket_NotClosed
    ne_NoPacket_Unseen := ne_NoPacket_Unseen
    ne_NoPacket_NoBody := ne_NoPacket_NoBody
    ne_NoPacket_NoStamp := ne_NoPacket_NoStamp
    ne_NoPacket_NoStamps := ne_NoPacket_NoStamps
    ne_NoPacket_NoMenu := ne_NoPacket_NoMenu
    ne_NothingBack_NoDeed := ne_NothingBack_NoDeed
    ne_NothingBack_NoHand := ne_NothingBack_NoHand
    ne_NothingBack_NoBook := ne_NothingBack_NoBook
    ne_NothingBack_NotClosed := ne_NothingBack_NotClosed
    ne_NothingBack_Unseen := ne_NothingBack_Unseen
    ne_NothingBack_NoBody := ne_NothingBack_NoBody
    ne_NothingBack_NoStamp := ne_NothingBack_NoStamp
    ne_NothingBack_NoStamps := ne_NothingBack_NoStamps
    ne_NothingBack_NoMenu := ne_NothingBack_NoMenu
    ne_NothingBack_NoPacket := ne_NothingBack_NoPacket
    ne_NoHands_NoDeed := ne_NoHands_NoDeed
    ne_NoHands_NoHand := ne_NoHands_NoHand
    ne_NoHands_NoBook := ne_NoHands_NoBook
    ne_NoHands_NotClosed := ne_NoHands_NotClosed
    ne_NoHands_Unseen := ne_NoHands_Unseen
    ne_NoHands_NoBody := ne_NoHands_NoBody
    ne_NoHands_NoStamp := ne_NoHands_NoStamp
    ne_NoHands_NoStamps := ne_NoHands_NoStamps
    ne_NoHands_NoMenu := ne_NoHands_NoMenu
    ne_NoHands_NoPacket := ne_NoHands_NoPacket
    ne_NoHands_NothingBack := ne_NoHands_NothingBack
    ne_NoBranches_NoDeed := ne_NoBranches_NoDeed
    ne_NoBranches_NoHand := ne_NoBranches_NoHand
    ne_NoBranches_NoBook := ne_NoBranches_NoBook
    ne_NoBranches_NotClosed := ne_NoBranches_NotClosed
    ne_NoBranches_Unseen := ne_NoBranches_Unseen
    ne_NoBranches_NoBody := ne_NoBranches_NoBody
    ne_NoBranches_NoStamp := ne_NoBranches_NoStamp
    ne_NoBranches_NoStamps := ne_NoBranches_NoStamps
    ne_NoBranches_NoMenu := ne_NoBranches_NoMenu
    ne_NoBranches_NoPacket := ne_NoBranches_NoPacket
    ne_NoBranches_NothingBack := ne_NoBranches_NothingBack
    ne_NoBranches_NoHands := ne_NoBranches_NoHands
    ne_TooMany_NoDeed := ne_TooMany_NoDeed
    ne_TooMany_NoHand := ne_TooMany_NoHand
    ne_TooMany_NoBook := ne_TooMany_NoBook
    ne_TooMany_NotClosed := ne_TooMany_NotClosed
    ne_TooMany_Unseen := ne_TooMany_Unseen
    ne_TooMany_NoBody := ne_TooMany_NoBody
    ne_TooMany_NoStamp := ne_TooMany_NoStamp
    ne_TooMany_NoStamps := ne_TooMany_NoStamps
    ne_TooMany_NoMenu := ne_TooMany_NoMenu
    ne_TooMany_NoPacket := ne_TooMany_NoPacket
    ne_TooMany_NothingBack := ne_TooMany_NothingBack
    ne_TooMany_NoHands := ne_TooMany_NoHands
    ne_TooMany_NoBranches := ne_TooMany_NoBranches }
  · intro z hz
    have hz : z ∈ [(P__law_deed_right, lq__law_deed_right), (P_law, lq_law)] := hz
    simp only [List.mem_cons, List.not_mem_nil, or_false] at hz
    rcases hz with rfl | rfl <;> simp
  · exact ⟨hb (ca__law_deed_right, P__law_deed_right) (by simp), hb (ca_law, P_law) (by simp)⟩
theorem walk {l : PySem.W.OpenLaw} {q : Program} {loose : List Str} {XP : (Str → Option Value) → Heap → Prop} {YP : World → Heap → Prop} {d : DefRec} {K : Params → PySem.W.Frag} (hn : l.most = some 63) (hdf : d.params.defaults = [])
    (hY : ∀ (w : World) (h : Heap), YP w h → (K w.params).In h)
    (F : ∀ (w : World) (mg : Str → Option Value) (fa : Addr) (h : Heap), YP w h → (K w.params).In h → h.Ns mainGlobals mg → mg d.name = some (.ref fa) →
      ∃ (A : Ads) (nam : Nam), A.f_law = fa ∧ @TX nam l.prog w (K w.params) mg A ∧ Tbs (K w.params) h [(A.c__law_deed_right, A.P__law_deed_right), (A.c_law, A.P_law)] ∧ (∀ z ∈ nam.T, z.1 ∈ ([(A.c__law_deed_right, A.P__law_deed_right), (A.c_law, A.P_law)]).map (·.2)) ∧ (∀ (s : Shared) (v : Value), BindsTo s A.d_law ⟨[v], []⟩ [("script", v)]) ∧ ∀ base, (∀ z ∈ [(A.c__law_deed_right, A.P__law_deed_right), (A.c_law, A.P_law)], LamX.TabB base mg z.1 z.2) → TBs mg base A)
    (law_true : ∀ [Nam] {P : Program} {w : World} {K : PySem.W.Frag} {mg : Str → Option Value} {A : Ads}, TX P w K mg A → ∀ ns : List Int, ns.length ≤ 63 → ∃ S, m_law A [.fz (ns.map D.int)] [] = .ok (.bl true) S) :
    PySem.W.WalkO q loose XP YP l.row.toRowW d [] (fun f vs => PySem.call f vs) := by
  refine walkG (k := 15) (x := "script") hn hdf ⟨rfl, by decide, by decide⟩ hY fun w mg fa h Y X G hfa => ?_
  obtain ⟨A, nam, rfl, T, tb, nm, hb, tbs⟩ := F w mg fa h Y X G hfa
  exact ⟨_, A.d_law, m_law A, nam, tb, nm, hb, fun base _ _ hB => @ok_law nam _ _ _ _ base A T (tbs base hB), fun ns hl _ => law_true T ns hl⟩
end K01
end

section
set_option Elab.async false
set_option linter.all false
set_option maxRecDepth 100000
set_option maxHeartbeats 1000000
namespace K01
open PySem PySem.Spec PyProof.Rows L2 Fx
variable [Nam]
/-! ## the plain law, part 1: evaluation; the judges -/
theorem mVar_ev {i : Nat} {Γ : En} {S : Sto} {d : D} (h : Γ[i]? = some (some d)) : mVar i Γ S = .ok d S := by unfold mVar; rw [h]
@[simp] theorem mC_ev (d : D) (Γ : En) (S : Sto) : mC d Γ S = .ok d S := rfl
@[simp] theorem sPass_ev (Γ : En) (S : Sto) : sPass Γ S = .nx Γ S := rfl
@[simp] theorem aNil_ev (Γ : En) (S : Sto) : aNil Γ S = .ok [] S := rfl
def nb (n b : Bool) : Bool := if n then !b else b
@[simp] theorem nb_f (b : Bool) : nb false b = b := rfl
@[simp] theorem nb_t (b : Bool) : nb true b = !b := rfl
@[simp] theorem eqI (n : Bool) (a b : Int) (S : Sto) : dEqA n (.int a) (.int b) S = .ok (.bl (nb n (decide (a = b)))) S := by
  simp [dEqA, eqE, seqK, dEqG, toPyS, toPy, SeqAt.shaped, PyData.eqv, PyData.canLay0, PyData.depth, nb, Bool.beq_eq_decide_eq]
theorem eqS (n : Bool) {a b : Str} (ha : PyData.strOk a = true) (hb : PyData.strOk b = true) (S : Sto) : dEqA n (.str a) (.str b) S = .ok (.bl (nb n (decide (a = b)))) S := by
  simp [dEqA, eqE, seqK, dEqG, toPyS, toPy, SeqAt.shaped, PyData.eqv, PyData.canLay0, PyData.depth, nb, Bool.beq_eq_decide_eq, ha, hb]
@[simp] theorem eqB (n : Bool) (a b : Bool) (S : Sto) : dEqA n (.bl a) (.bl b) S = .ok (.bl (nb n (decide (a = b)))) S := by
  simp [dEqA, eqE, seqK, dEqG, toPyS, toPy, SeqAt.shaped, PyData.eqv, PyData.canLay0, PyData.depth, nb, Bool.beq_eq_decide_eq]
/-- a plain value, as the judges see it -/
def Pl : D → Bool
  | .ref _ | .opq _ | .adr _ => false
  | .str x => PyData.strOk x && decide (x.length ≤ 64)
  | .tup ds => Pls ds
  | _ => true
where Pls : List D → Bool
  | [] => true
  | d :: ds => Pl d && Pls ds
theorem Pls_mem : ∀ {ds : List D}, Pl.Pls ds = true → ∀ d ∈ ds, Pl d = true
  | [], _, d, h => nomatch h
  | e :: ds, h, d, hm => by
    rw [Pl.Pls, Bool.and_eq_true] at h
    rcases List.mem_cons.mp hm with rfl | hm
    · exact h.1
    · exact Pls_mem h.2 d hm
def tyP : D → String
  | .non => "NoneType"
  | .bl _ => "bool"
  | .int _ => "int"
  | .str _ => "str"
  | .tup _ => "tuple"
  | .dct _ _ => "dict"
  | _ => "list"
theorem tyP_ev {d : D} (h : Pl d = true) (S : Sto) : tyD2 S d = some (tyP d) := by
  cases d <;> first | rfl | (simp [Pl] at h)
theorem kits : ∀ t ∈ ["NoneType", "bool", "int", "str", "tuple", "dict", "list"], kitB t "tuple" = some (t == "tuple") ∧ kitB t "str" = some (t == "str") ∧ kitB t "bool" = some (t == "bool") ∧ kitB t "int" = some (t == "int" || t == "bool") := by
  decide +kernel
theorem tyP_mem (d : D) : tyP d ∈ ["NoneType", "bool", "int", "str", "tuple", "dict", "list"] := by cases d <;> simp [tyP]
def isTup : D → Bool | .tup _ => true | _ => false
def isStr : D → Bool | .str _ => true | _ => false
def isBl : D → Bool | .bl _ => true | _ => false
def isIn : D → Bool | .int _ => true | _ => false
theorem is_tup {d : D} (h : Pl d = true) {e : Ed} {Γ : En} {S S' : Sto} (he : e Γ S = .ok d S') : mIsiA "tuple" e Γ S = .ok (.bl (isTup d)) S' := by
  unfold mIsiA
  rw [he]
  simp only [Res.bind_ok, tyP_ev h, (kits _ (tyP_mem d)).1]
  cases d <;> rfl
theorem is_str {d : D} (h : Pl d = true) {e : Ed} {Γ : En} {S S' : Sto} (he : e Γ S = .ok d S') : mIsiA "str" e Γ S = .ok (.bl (isStr d)) S' := by
  unfold mIsiA
  rw [he]
  simp only [Res.bind_ok, tyP_ev h, (kits _ (tyP_mem d)).2.1]
  cases d <;> rfl
theorem is_bool {d : D} (h : Pl d = true) {e : Ed} {Γ : En} {S S' : Sto} (he : e Γ S = .ok d S') : mIsiA "bool" e Γ S = .ok (.bl (isBl d)) S' := by
  unfold mIsiA
  rw [he]
  simp only [Res.bind_ok, tyP_ev h, (kits _ (tyP_mem d)).2.2.1]
  cases d <;> rfl
theorem is_int {d : D} (h : Pl d = true) {e : Ed} {Γ : En} {S S' : Sto} (he : e Γ S = .ok d S') : mIsiA "int" e Γ S = .ok (.bl (isIn d || isBl d)) S' := by
  unfold mIsiA
  rw [he]
  simp only [Res.bind_ok, tyP_ev h, (kits _ (tyP_mem d)).2.2.2]
  cases d <;> rfl
/-- a whole number within bounds -/
def numD (d : D) (lo hi : Int) : Bool := match d with
  | .int i => decide (lo ≤ i) && decide (i ≤ hi)
  | _ => false
variable (A : Ads) (S : Sto)
theorem ch_ev (a b c : Int) (x y z : Ed) (Γ : En) (hx : x Γ S = .ok (.int a) S) (hy : y Γ S = .ok (.int b) S) (hz : z Γ S = .ok (.int c) S) : mCh dLe dLe x y z Γ S = .ok (.bl (decide (a ≤ b) && decide (b ≤ c))) S := by
  unfold mCh
  simp only [hx, hy, Res.bind_ok, dLe, dII]
  by_cases h : a ≤ b
  · simp [h, hz, dLe, dII]
  · simp [h]
theorem whole_ev {d : D} (h : Pl d = true) : m_is_whole A [d] S = .ok (.bl (isIn d)) S := by
  have v : mVar 0 (enter 1 [d]) S = .ok d S := rfl
  unfold m_is_whole runF
  simp only [sRet, vAnd, vNot, is_int h v, is_bool h v, Res.bind_ok]
  cases d <;> simp [isIn, isBl]
theorem num_ev {d : D} (h : Pl d = true) (lo hi : Int) : m_is_number A [d, .int lo, .int hi] S = .ok (.bl (numD d lo hi)) S := by
  unfold m_is_number runF
  have v0 : mVar 0 (enter 3 [d, .int lo, .int hi]) S = .ok d S := rfl
  have v1 : mVar 1 (enter 3 [d, .int lo, .int hi]) S = .ok (.int lo) S := rfl
  have v2 : mVar 2 (enter 3 [d, .int lo, .int hi]) S = .ok (.int hi) S := rfl
  have c : mCall 1 (m_is_whole A) (aCons (mVar 0) aNil) (enter 3 [d, .int lo, .int hi]) S = .ok (.bl (isIn d)) S := by
    simp [mCall, aCons, v0, arg, whole_ev A S h]
  simp only [sRet, vAnd, c, Res.bind_ok]
  cases d with
  | int i => simp only [isIn, ch_ev S lo i hi _ _ _ _ v1 v0 v2, Res.toS_ok, numD]
  | _ => simp [isIn, numD]
theorem lwhole_ev {d : D} (h : Pl d = true) (lo hi : Int) : m__law_whole A [d, .int lo, .int hi] S = .ok (.bl (numD d lo hi)) S := by
  unfold m__law_whole runF
  have v0 : mVar 0 (enter 3 [d, .int lo, .int hi]) S = .ok d S := rfl
  have v1 : mVar 1 (enter 3 [d, .int lo, .int hi]) S = .ok (.int lo) S := rfl
  have v2 : mVar 2 (enter 3 [d, .int lo, .int hi]) S = .ok (.int hi) S := rfl
  simp only [sRet, vAnd, vNot, is_int h v0, is_bool h v0, Res.bind_ok]
  cases d with
  | int i => simp only [isIn, isBl, Bool.true_or, Bool.not_false, ch_ev S lo i hi _ _ _ _ v1 v0 v2, Res.bind_ok, Res.toS_ok, numD]
  | bl b => simp [isIn, isBl, numD]
  | _ => simp [isIn, isBl, numD]
end K01
end

section
set_option Elab.async false
set_option linter.all false
set_option maxRecDepth 100000
set_option maxHeartbeats 1000000
namespace K01
open PySem PySem.Spec PyProof.Rows L2 Fx
variable [Nam]
/-! ## the plain law, part 2: forward lemmas; stamps, places -/
section
variable {Γ : En} {S S1 S2 S3 S4 : Sto} {a b c e e1 e2 e3 : Ed} {s t : Bd} {x y : Bool} {d d1 d2 d3 r : D} {f : Fn} {i : Nat} {rest : Sd} {R : SR}
theorem and_ev (ha : a Γ S = .ok (.bl x) S1) (hb : x = true → b Γ S1 = .ok (.bl y) S1) : vAnd a b Γ S = .ok (.bl (x && y)) S1 := by
  unfold vAnd
  rw [ha, Res.bind_ok]
  cases x with
  | true => exact hb rfl
  | false => rfl
theorem or_ev (ha : a Γ S = .ok (.bl x) S1) (hb : x = false → b Γ S1 = .ok (.bl y) S1) : vOr a b Γ S = .ok (.bl (x || y)) S1 := by
  unfold vOr
  rw [ha, Res.bind_ok]
  cases x with
  | false => exact hb rfl
  | true => rfl
theorem not_ev (ha : a Γ S = .ok (.bl x) S1) : vNot a Γ S = .ok (.bl (!x)) S1 := by unfold vNot; rw [ha]; rfl
theorem tor_ev (ha : s Γ S = .ok x S1) (hb : x = false → t Γ S1 = .ok y S1) : mOr s t Γ S = .ok (x || y) S1 := by
  unfold mOr
  rw [ha, Res.bind_ok]
  cases x with
  | false => exact hb rfl
  | true => rfl
theorem tand_ev (ha : s Γ S = .ok x S1) (hb : x = true → t Γ S1 = .ok y S1) : mAnd s t Γ S = .ok (x && y) S1 := by
  unfold mAnd
  rw [ha, Res.bind_ok]
  cases x with
  | true => exact hb rfl
  | false => rfl
theorem tnot_ev (ha : s Γ S = .ok x S1) : mNot s Γ S = .ok (!x) S1 := by unfold mNot; rw [ha]; rfl
theorem t_ev (ha : a Γ S = .ok (.bl x) S1) : mT a Γ S = .ok x S1 := by unfold mT; rw [ha]; rfl
theorem run_ev {N : Nat} {b : Sd} {ds : List D} (h : b (enter N ds) S = .rt d S1) : runF N b ds S = .ok d S1 := by unfold runF; rw [h]
theorem run_nx {N : Nat} {b : Sd} {ds : List D} {Γ' : En} (h : b (enter N ds) S = .nx Γ' S1) : runF N b ds S = .ok .non S1 := by unfold runF; rw [h]
theorem run_ex {N : Nat} {b : Sd} {ds : List D} {Γ' : En} {c : Addr} {fs : List (Str × D)} (h : b (enter N ds) S = .ex c fs Γ' S1) : runF N b ds S = .exc c fs S1 := by unfold runF; rw [h]
theorem ret_ev (h : a Γ S = .ok d S1) : sRet a Γ S = .rt d S1 := by unfold sRet; rw [h]; rfl
theorem drop_ev (h : a Γ S = .ok d S1) : sDrop a Γ S = .nx Γ S1 := by unfold sDrop; rw [h]; rfl
theorem asg_ev (h : a Γ S = .ok d S1) : sAsg (gN i) a Γ S = .nx (Γ.set i (some d)) S1 := by unfold sAsg gN; rw [h]; rfl
theorem seq_ev {u v : Sd} {Γ' : En} (h : u Γ S = .nx Γ' S1) (k : v Γ' S1 = R) : sSeq u v Γ S = R := by unfold sSeq; rw [h]; exact k
theorem seq_rt {u v : Sd} (h : u Γ S = .rt d S1) : sSeq u v Γ S = .rt d S1 := by unfold sSeq; rw [h]
theorem seq_ex {u v : Sd} {Γ' : En} {c : Addr} {fs : List (Str × D)} (h : u Γ S = .ex c fs Γ' S1) : sSeq u v Γ S = .ex c fs Γ' S1 := by unfold sSeq; rw [h]
theorem if_t {u v : Sd} (h : t Γ S = .ok true S1) (k : u Γ S1 = R) : sIf t u v Γ S = R := by unfold sIf; rw [h]; exact k
theorem if_f {u v : Sd} (h : t Γ S = .ok false S1) (k : v Γ S1 = R) : sIf t u v Γ S = R := by unfold sIf; rw [h]; exact k
/-- if t: return a -/
theorem ifr_ev {d' : D} (ht : t Γ S = .ok x S1) (ha : x = true → a Γ S1 = .ok d S1) (hb : x = false → rest Γ S1 = .rt d' S1) : sSeq (sIf t (sRet a) sPass) rest Γ S = .rt (if x = true then d else d') S1 := by
  cases x with
  | true => exact seq_rt (if_t ht (ret_ev (ha rfl)))
  | false => exact seq_ev (if_f ht rfl) (hb rfl)
theorem ifn_ev (ht : t Γ S = .ok false S1) (hb : rest Γ S1 = R) {u : Sd} : sSeq (sIf t u sPass) rest Γ S = R := seq_ev (if_f ht rfl) hb
theorem call1 (h : e Γ S = .ok d S1) (hf : f [d] S1 = .ok r S2) : mCall 1 f (aCons e aNil) Γ S = .ok r S2 := by simp [mCall, aCons, h, arg, hf]
theorem call2 (h : e Γ S = .ok d S1) (h1 : e1 Γ S1 = .ok d1 S2) (hf : f [d, d1] S2 = .ok r S3) : mCall 2 f (aCons e (aCons e1 aNil)) Γ S = .ok r S3 := by simp [mCall, aCons, h, h1, arg, hf]
theorem call3 (h : e Γ S = .ok d S1) (h1 : e1 Γ S1 = .ok d1 S2) (h2 : e2 Γ S2 = .ok d2 S3) (hf : f [d, d1, d2] S3 = .ok r S4) : mCall 3 f (aCons e (aCons e1 (aCons e2 aNil))) Γ S = .ok r S4 := by simp [mCall, aCons, h, h1, h2, arg, hf]
theorem op_ev {g : D → D → Sto → Res D} {R : Res D} (h : e Γ S = .ok d S1) (h1 : e1 Γ S1 = .ok d1 S2) (hf : g d d1 S2 = R) : mOp g e e1 Γ S = R := by simp [mOp, h, h1, hf]
theorem ix_tup {ds : List D} (n : Nat) (h : ds[n]? = some d) : dIxA (.tup ds) (.int (n : Nat)) S = .ok d S := by
  have : atI ds ((n : Nat) : Int) = some d := atI_nat h
  simp [dIxA, dDc, dIx, dSq, this]
theorem ixt_ev {ds : List D} (n : Nat) (h : e Γ S = .ok (.tup ds) S1) (hd : ds[n]? = some d) : mOp dIxA e (mC (.int (n : Nat))) Γ S = .ok d S1 := op_ev h rfl (ix_tup n hd)
theorem len_tup {ds : List D} (h : e Γ S = .ok (.tup ds) S1) : mBlt fLenA (aCons e aNil) Γ S = .ok (.int ds.length) S1 := by
  simp [mBlt, aCons, h, fLenA, dDc, fLen, dSq]
theorem eqI_ev {n : Bool} {i j : Int} (h : e Γ S = .ok (.int i) S1) (h1 : e1 Γ S1 = .ok (.int j) S2) : mOp (dEqA n) e e1 Γ S = .ok (.bl (nb n (decide (i = j)))) S2 := op_ev h h1 (eqI n i j S2)
theorem eqS_ev {n : Bool} {i j : Str} (h : e Γ S = .ok (.str i) S1) (h1 : e1 Γ S1 = .ok (.str j) S2) (hi : PyData.strOk i = true) (hj : PyData.strOk j = true := by decide +kernel) : mOp (dEqA n) e e1 Γ S = .ok (.bl (nb n (decide (i = j)))) S2 := op_ev h h1 (eqS n hi hj S2)
end
section
variable (A : Ads) (S : Sto)
/-- a tuple of n -/
def tupN (d : D) (n : Nat) : Bool := match d with
  | .tup ds => decide (ds.length = n)
  | _ => false
theorem tupOf_ev {d : D} (h : Pl d = true) (n : Nat) : m_is_tuple_of A [d, .int n] S = .ok (.bl (tupN d n)) S := by
  have v0 : mVar 0 (enter 2 [d, .int n]) S = .ok d S := rfl
  have v1 : mVar 1 (enter 2 [d, .int n]) S = .ok (.int n) S := rfl
  unfold m_is_tuple_of
  refine run_ev (ret_ev ?_)
  cases d with
  | tup ds =>
    have := and_ev (is_tup h v0) (fun _ => eqI_ev (n := false) (len_tup v0) v1)
    rw [this]
    simp [isTup, tupN]
    omega
  | _ =>
    refine (and_ev (y := false) (is_tup h v0) (fun z => by simp [isTup] at z)).trans ?_
    simp [isTup, tupN]
def pairD (d : D) (p q : D → Bool) : Bool := match d with
  | .tup [x, y] => p x && q y
  | _ => false
def stampD (d : D) : Bool := pairD d (numD · 1 999) (numD · 0 3)
def rootD (d : D) : Bool := pairD d (numD · 0 0) (numD · 0 0)
def placeD (d : D) : Bool := stampD d || rootD d
theorem tup2 {d : D} (h : tupN d 2 = true) : ∃ x y, d = .tup [x, y] := by
  cases d with
  | tup ds =>
    simp [tupN] at h
    match ds, h with
    | [x, y], _ => exact ⟨x, y, rfl⟩
  | _ => simp [tupN] at h
theorem pair_no {d : D} (h : tupN d 2 = false) (p q : D → Bool) : pairD d p q = false := by
  unfold pairD
  split
  · simp [tupN] at h
  · rfl
/-- two numbers of a pair, whoever asks -/
theorem pair_ev {d : D} (h : Pl d = true) {Γ : En} {e0 : Ed} {l0 h0 l1 h1 : Int} {f : Fn} (hf : ∀ x lo hi, Pl x = true → f [x, .int lo, .int hi] S = .ok (.bl (numD x lo hi)) S) (v : e0 Γ S = .ok d S) (ht : tupN d 2 = true) :
    vAnd (mCall 3 f (aCons (mOp dIxA e0 (mC (.int 0))) (aCons (mC (.int l0)) (aCons (mC (.int h0)) aNil)))) (mCall 3 f (aCons (mOp dIxA e0 (mC (.int 1))) (aCons (mC (.int l1)) (aCons (mC (.int h1)) aNil)))) Γ S = .ok (.bl (pairD d (numD · l0 h0) (numD · l1 h1))) S := by
  obtain ⟨x, y, rfl⟩ := tup2 ht
  have hx : Pl x = true := Pls_mem h x (by simp)
  have hy : Pl y = true := Pls_mem h y (by simp)
  exact and_ev (call3 (ixt_ev 0 v rfl) rfl rfl (hf x _ _ hx)) fun _ => call3 (ixt_ev 1 v rfl) rfl rfl (hf y _ _ hy)
theorem stamp_ev {d : D} (h : Pl d = true) : m_is_stamp A [d] S = .ok (.bl (stampD d)) S := by
  have v0 : mVar 0 (enter 1 [d]) S = .ok d S := rfl
  unfold m_is_stamp
  refine run_ev (ret_ev ?_)
  refine (and_ev (call2 v0 rfl (tupOf_ev A S h 2)) (fun z => pair_ev S h (fun x lo hi hx => num_ev A S hx lo hi) v0 z)).trans ?_
  cases ht : tupN d 2 with
  | true => rfl
  | false => rw [stampD, pair_no ht]; rfl
theorem place_ev {d : D} (h : Pl d = true) : m_is_place_name A [d] S = .ok (.bl (placeD d)) S := by
  have v0 : mVar 0 (enter 1 [d]) S = .ok d S := rfl
  unfold m_is_place_name
  refine run_ev ((ifr_ev (t_ev (call1 v0 (stamp_ev A S h))) (fun _ => rfl) (fun _ => ret_ev (and_ev (call2 v0 rfl (tupOf_ev A S h 2)) (fun z => pair_ev S h (fun x lo hi hx => num_ev A S hx lo hi) v0 z)))).trans ?_)
  cases hs : stampD d with
  | true => simp [placeD, hs]
  | false =>
    rw [if_neg Bool.false_ne_true]
    cases ht : tupN d 2 with
    | true => rw [placeD, hs]; rfl
    | false => rw [placeD, hs, rootD, pair_no ht]; rfl
/-! the law's own -/
theorem notTup_ev {d : D} (h : Pl d = true) {Γ : En} {e : Ed} (v : e Γ S = .ok d S) (n : Nat) : mOr (mNot (mT (mIsiA "tuple" e))) (mT (mOp (dEqA true) (mBlt fLenA (aCons e aNil)) (mC (.int n)))) Γ S = .ok (!tupN d n) S := by
  cases d with
  | tup ds =>
    refine (tor_ev (tnot_ev (t_ev (is_tup h v))) (fun _ => t_ev (eqI_ev (n := true) (len_tup v) rfl))).trans ?_
    simp [isTup, tupN]
    omega
  | _ =>
    refine (tor_ev (y := true) (tnot_ev (t_ev (is_tup h v))) (fun z => by simp [isTup] at z)).trans ?_
    simp [isTup, tupN]
theorem lstamp_ev {d : D} (h : Pl d = true) : m__law_a_stamp A [d] S = .ok (.bl (stampD d)) S := by
  have v0 : mVar 0 (enter 1 [d]) S = .ok d S := rfl
  unfold m__law_a_stamp
  refine run_ev ((ifr_ev (notTup_ev S h v0 2) (fun _ => rfl) (fun z => ret_ev (pair_ev S h (fun x lo hi hx => lwhole_ev A S hx lo hi) v0 (by simpa using z)))).trans ?_)
  cases ht : tupN d 2 with
  | true => rfl
  | false => rw [stampD, pair_no ht]; rfl
theorem lplace_ev {d : D} (h : Pl d = true) : m__law_a_place A [d] S = .ok (.bl (placeD d)) S := by
  have v0 : mVar 0 (enter 1 [d]) S = .ok d S := rfl
  unfold m__law_a_place
  refine run_ev ((ifr_ev (t_ev (call1 v0 (lstamp_ev A S h))) (fun _ => rfl) (fun _ => ifr_ev (notTup_ev S h v0 2) (fun _ => rfl) (fun z => ret_ev (pair_ev S h (fun x lo hi hx => lwhole_ev A S hx lo hi) v0 (by simpa using z))))).trans ?_)
  cases hs : stampD d with
  | true => simp [placeD, hs]
  | false =>
    rw [if_neg Bool.false_ne_true, placeD, hs]
    cases ht : tupN d 2 with
    | true => rfl
    | false => rw [rootD, pair_no ht]; rfl
end
end K01
end

section
set_option Elab.async false
set_option linter.all false
set_option maxRecDepth 100000
set_option maxHeartbeats 1000000
namespace K01
open PySem PySem.Spec PyProof.Rows L2 Fx
variable [Nam]
/-! ## comprehensions that change nothing; names -/
/-- the items that a source walks -/
structure Its (s : Sr) (S : Sto) (xs : List D) : Prop where
  it : ∀ i, itS s i S = some xs[i]?
  ln : lenS s S = xs.length + 1
theorem its_tup (xs : List D) (S : Sto) : Its (.tup xs) S xs := ⟨fun _ => rfl, rfl⟩
theorem its_seq {d : D} {S : Sto} {xs : List D} (h : dL S d = some xs) : Its (.seq d) S xs := ⟨fun i => by simp [itS, h], by simp [lenS, h]⟩
def sgD (x : Str) : List D := x.cps.toList.map fun c => D.str ⟨#[c]⟩
theorem its_txt (x : Str) (S : Sto) : Its (.txt x) S (sgD x) := ⟨fun i => by simp [itS, sgD], by simp [lenS, sgD, Str.length]⟩
def rgD (n : Nat) : List D := (List.range n).map fun i : Nat => D.int (i : Int)
theorem its_rng (n : Nat) (S : Sto) : Its (.rng 0 n) S (rgD n) := ⟨fun i => by
  unfold itS rgD
  by_cases h : i < n
  · simp [h]
  · simp [h], by simp [lenS, rgD]⟩
theorem lcL_ev {s : Sr} {tg : Td} {Γ : En} {cnd : Bd} {elt : Ed} {S : Sto} {xs : List D} (hs : Its s S xs) (p : D → Bool) (g : D → D)
    (h : ∀ x ∈ xs, ∃ Γ1, tg x Γ = some Γ1 ∧ cnd Γ1 S = .ok (p x) S ∧ (p x = true → elt Γ1 S = .ok (g x) S)) (hb : xs.length < big) :
    ∀ (n i : Nat) (acc : List D), i ≤ xs.length → n = xs.length - i + 1 → acc.length ≤ i → lcL s tg Γ cnd elt n i acc S = .ok (acc ++ ((xs.drop i).filter p).map g) S
  | 0, i, acc, hi, hn, ha => by omega
  | n + 1, i, acc, hi, hn, ha => by
    unfold lcL
    rw [hs.it i]
    by_cases hl : i < xs.length
    · rw [List.getElem?_eq_getElem hl]
      obtain ⟨Γ1, e1, e2, e3⟩ := h xs[i] (List.getElem_mem hl)
      have ed : xs.drop i = xs[i] :: xs.drop (i + 1) := List.drop_eq_getElem_cons hl
      cases hp : p xs[i] with
      | true =>
        rw [hp] at e2
        have hz : acc.length < big := by omega
        simp only [e1, e2, e3 hp, hz, if_true]
        rw [lcL_ev hs p g h hb n (i + 1) (acc ++ [g xs[i]]) (by omega) (by omega) (by simp; omega), ed, List.filter_cons_of_pos (by simpa using hp)]
        simp
      | false =>
        rw [hp] at e2
        simp only [e1, e2]
        rw [lcL_ev hs p g h hb n (i + 1) acc (by omega) (by omega) (by omega), ed, List.filter_cons_of_neg (by simp [hp])]
    · have : xs[i]? = none := List.getElem?_eq_none (by omega)
      rw [this, List.drop_eq_nil_of_le (by omega)]
      simp
/-- [g(x) for x in src if p(x)] -/
theorem lc_ev {f : Bool} {vs : List Nat} {src : Id'} {j : Nat} {cnd : Bd} {elt : Ed} {Γ : En} {S S0 : Sto} {s : Sr} {xs : List D} (e : src Γ S0 = .ok s S) (hs : Its s S xs) (p : D → Bool) (g : D → D)
    (h : ∀ x ∈ xs, cnd ((wipeE Γ vs).set j (some x)) S = .ok (p x) S ∧ (p x = true → elt ((wipeE Γ vs).set j (some x)) S = .ok (g x) S)) (hb : xs.length < big := by decide) :
    mLc f vs src (gN j) cnd elt Γ S0 = mkL f ((xs.filter p).map g) S := by
  unfold mLc
  rw [e, Res.bind_ok, hs.ln, lcL_ev (tg := gN j) (Γ := wipeE Γ vs) (cnd := cnd) (elt := elt) hs p g (fun x hx => ⟨_, rfl, (h x hx).1, (h x hx).2⟩) hb _ 0 [] (Nat.zero_le _) (by omega) (Nat.zero_le _)]
  simp
/-- .. no test -/
theorem lc_all {f : Bool} {vs : List Nat} {src : Id'} {j : Nat} {elt : Ed} {Γ : En} {S S0 : Sto} {s : Sr} {xs : List D} (e : src Γ S0 = .ok s S) (hs : Its s S xs) (g : D → D)
    (h : ∀ x ∈ xs, elt ((wipeE Γ vs).set j (some x)) S = .ok (g x) S) (hb : xs.length < big := by decide) :
    mLc f vs src (gN j) bYes elt Γ S0 = mkL f (xs.map g) S := by
  have := lc_ev (f := f) (cnd := bYes) (elt := elt) (j := j) (vs := vs) e hs (fun _ => true) g (fun x hx => ⟨rfl, fun _ => h x hx⟩) hb
  rw [this, List.filter_eq_self.mpr (fun _ _ => rfl)]
theorem any_tup {a : Ed} {Γ : En} {S S1 : Sto} {xs : List D} (h : a Γ S = .ok (.tup xs) S1) : iAny a Γ S = .ok (.tup xs) S1 := by unfold iAny; rw [h]; rfl
theorem any_str {a : Ed} {Γ : En} {S S1 : Sto} {x : Str} (h : a Γ S = .ok (.str x) S1) : iAny a Γ S = .ok (.txt x) S1 := by unfold iAny; rw [h]; rfl
theorem any_lst {a : Ed} {Γ : En} {S S1 : Sto} {xs : List D} (h : a Γ S = .ok (.lst xs) S1) : iAny a Γ S = .ok (.seq (.lst xs)) S1 := by unfold iAny; rw [h]; rfl
theorem any_ref {a : Ed} {Γ : En} {S S1 : Sto} {n : Nat} {xs : List D} (h : a Γ S = .ok (.ref n) S1) (hn : S1[n]? = some (.lst xs)) : iAny a Γ S = .ok (.seq (.ref n)) S1 := by unfold iAny; rw [h, Res.bind_ok]; simp [dL, hn]
section
variable (A : Ads) (S : Sto)
def letters : Str := "abcdefghijklmnopqrstuvwxyz"
def nameD (d : D) : Bool := match d with
  | .str x => (decide ((1 : Int) ≤ x.length) && decide ((x.length : Int) ≤ 4)) && x.cps.toList.all fun c => decide (c ∈ letters.cps.toList)
  | _ => false
theorem pl_str {x : Str} (h : Pl (.str x) = true) : PyData.strOk x = true ∧ x.length ≤ 64 := by
  simpa [Pl] using h
theorem len_str {x : Str} {Γ : En} {e : Ed} {S1 : Sto} (h : e Γ S = .ok (.str x) S1) (hl : x.length ≤ 64) : mBlt fLenA (aCons e aNil) Γ S = .ok (.int x.length) S1 := by
  have : x.length ≤ big := by unfold big; omega
  simp [mBlt, aCons, h, fLenA, dDc, fLen, this]
theorem sgD_len (x : Str) : (sgD x).length = x.length := by simp [sgD, Str.length]
theorem in_sign (n : Bool) (c : Nat) (z : Str) : dInA n (.str ⟨#[c]⟩) (.str z) S = .ok (.bl (nb n (decide (c ∈ z.cps.toList)))) S := by
  simp [dInA, dDc, nb]
theorem all_bls (l : List Bool) {Γ : En} {e : Ed} {S1 : Sto} (h : e Γ S = .ok (.lst (l.map D.bl)) S1) : mBlt (fBls (fun l => l.all id)) (aCons e aNil) Γ S = .ok (.bl (l.all id)) S1 := by
  have : ∀ l : List Bool, bls (l.map D.bl) = some l := fun l => by induction l with
    | nil => rfl
    | cons b l ih => simp [bls, ih]
  simp [mBlt, aCons, h, fBls, dL, this]
theorem name_ev {d : D} (h : Pl d = true) : m_is_name A [d] S = .ok (.bl (nameD d)) S := by
  have v0 : mVar 0 (enter 2 [d]) S = .ok d S := rfl
  unfold m_is_name
  refine run_ev (ret_ev ?_)
  cases d with
  | str x =>
    obtain ⟨h1, h2⟩ := pl_str h
    refine (and_ev (is_str h v0) (fun _ => and_ev (y := x.cps.toList.all fun c => decide (c ∈ letters.cps.toList)) (ch_ev S _ _ _ _ _ _ _ rfl (len_str S v0 h2) rfl) (fun hl => ?_))).trans ?_
    · have hx : (sgD x).length < big := by rw [sgD_len]; unfold big; omega
      have e := lc_all (f := true) (vs := [1]) (j := 1) (elt := mOp (dInA false) (mVar 1) (mC (.str letters))) (any_str v0) (its_txt x S) (fun d => match d with | .str z => .bl (decide (z.cps.toList.headD 0 ∈ letters.cps.toList)) | _ => .non) (fun y hy => by
        obtain ⟨c, _, rfl⟩ := List.mem_map.mp hy
        exact op_ev rfl rfl (in_sign S false c letters)) hx
      have e2 : (sgD x).map (fun d => match d with | .str z => D.bl (decide (z.cps.toList.headD 0 ∈ letters.cps.toList)) | _ => D.non) = (x.cps.toList.map fun c => decide (c ∈ letters.cps.toList)).map D.bl := by
        unfold sgD
        rw [List.map_map, List.map_map]
        exact List.map_congr_left fun c _ => rfl
      rw [e2] at e
      have := all_bls S _ (Γ := enter 2 [.str x]) (e := mLc true [1] (iAny (mVar 0)) (gN 1) bYes (mOp (dInA false) (mVar 1) (mC (.str letters)))) e
      rw [List.all_map] at this
      exact this
    · simp [isStr, nameD]
  | _ =>
    refine (and_ev (y := false) (is_str h v0) (fun z => by simp [isStr] at z)).trans ?_
    simp [isStr, nameD]
theorem eqNil (n : Bool) (xs : List D) : dEqA n (.lst xs) (.lst []) S = .ok (.bl (nb n xs.isEmpty)) S := by
  simp [dEqA, eqE, seqK, nb]
theorem flt_all (l : List Nat) (q : Nat → Bool) : (((l.map fun c => D.str ⟨#[c]⟩).filter (fun d => match d with | .str z => !q (z.cps.toList.headD 0) | _ => false)).map id).isEmpty = l.all q := by
  induction l with
  | nil => rfl
  | cons c l ih =>
    cases hq : q c with
    | true => simpa [List.filter_cons, hq] using ih
    | false => simp [List.filter_cons, hq]
theorem lname_ev {d : D} (h : Pl d = true) : m__law_a_name A [d] S = .ok (.bl (nameD d)) S := by
  have v0 : mVar 0 (enter 2 [d]) S = .ok d S := rfl
  unfold m__law_a_name
  cases d with
  | str x =>
    obtain ⟨h1, h2⟩ := pl_str h
    refine run_ev ((ifr_ev (d' := .bl (x.cps.toList.all fun c => decide (c ∈ letters.cps.toList))) (tor_ev (tnot_ev (t_ev (is_str h v0))) (fun _ => tnot_ev (t_ev (ch_ev S _ _ _ _ _ _ _ rfl (len_str S v0 h2) rfl)))) (fun _ => rfl) (fun hl => ret_ev ?_)).trans ?_)
    · have hx : (sgD x).length < big := by rw [sgD_len]; unfold big; omega
      have e := lc_ev (f := true) (vs := [1]) (j := 1) (cnd := mT (mOp (dInA true) (mVar 1) (mC (.str letters)))) (elt := mVar 1) (any_str v0) (its_txt x S) (fun d => match d with | .str z => !decide (z.cps.toList.headD 0 ∈ letters.cps.toList) | _ => false) id (fun y hy => by
        obtain ⟨c, _, rfl⟩ := List.mem_map.mp hy
        exact ⟨t_ev (op_ev rfl rfl (in_sign S true c letters)), fun _ => rfl⟩) hx
      refine (op_ev e rfl (eqNil S false _)).trans ?_
      rw [nb_f, sgD, flt_all x.cps.toList fun c => decide (c ∈ letters.cps.toList)]
    · cases hz : (decide ((1 : Int) ≤ x.length) && decide ((x.length : Int) ≤ 4)) <;> simp [isStr, nameD, hz]
  | _ =>
    exact run_ev (seq_rt (if_t (tor_ev (y := true) (tnot_ev (t_ev (is_str h v0))) (fun z => by simp [isStr] at z)) (ret_ev rfl)))
end
end K01
end

section
set_option Elab.async false
set_option linter.all false
set_option maxRecDepth 100000
set_option maxHeartbeats 1000000
namespace K01
open PySem PySem.Spec PyProof.Rows L2 Fx
variable [Nam]
/-! ## contents, bodies, deeds -/
section
variable (A : Ads) (S : Sto)
theorem isn_ev {d : D} {Γ : En} {e : Ed} {S1 : Sto} (h : e Γ S = .ok d S1) : mOp (dIs false) e (mC .non) Γ S = .ok (.bl (isNon d)) S1 := op_ev h rfl rfl
/-- a text among texts -/
def memS (x : Str) (l : List Str) : Bool := l.any fun y => y == x
theorem fls (l : List Str) : toFls (l.map D.str) = some (l.map V.str) := by
  induction l with
  | nil => rfl
  | cons x l ih => simp [toFls, toFl, ih]
theorem inV_str (x : Str) (l : List Str) : inV (.str x) (l.map V.str) = memS x l := by
  unfold inV memS
  rw [List.any_map]
  rfl
theorem in_tup (x : Str) (l : List Str) : dInA false (.str x) (.tup (l.map D.str)) S = .ok (.bl (memS x l)) S := by
  simp [dInA, dDc, dIn, toFl, dSq, fls, inV_str]
theorem in_lst (x : Str) (l : List Str) : dInA false (.str x) (.lst (l.map D.str)) S = .ok (.bl (memS x l)) S := by
  simp [dInA, dDc, dIn, toFl, dSq, dL, fls, inV_str]
abbrev HOLD : List Str := ["block", "let", "sum", "product"]
abbrev NONE3 : List Str := ["block", "sum", "product"]
def contD (s : Str) (v : D) : Bool := if s = "let" then nameD v else if s = "use" then (isNon v || placeD v) else if s = "number" then numD v 0 99 else memS s NONE3 && isNon v
def holdD (d : D) : Bool := match d with
  | .str s => memS s HOLD
  | _ => false
theorem hold_ev {d : D} (h : Pl d = true) : m_does_hold A [d] S = .ok (.bl (holdD d)) S := by
  have v0 : mVar 0 (enter 1 [d]) S = .ok d S := rfl
  unfold m_does_hold
  refine run_ev (ret_ev ?_)
  cases d with
  | str x => exact (and_ev (is_str h v0) (fun _ => op_ev v0 rfl (in_tup S x HOLD)))
  | _ => exact (and_ev (y := false) (is_str h v0) (fun z => by simp [isStr] at z))
theorem lsts (l : List Str) {Γ : En} (a : Ad) (h : a Γ S = .ok (l.map D.str) S) (hl : l.length ≤ 64 := by decide) : mLst true a Γ S = .ok (.lst (l.map D.str)) S := by
  have : (l.map D.str).length ≤ big := by rw [List.length_map]; unfold big; omega
  unfold mLst
  rw [h, Res.bind_ok, if_pos this]
  rfl
theorem binder_ev {d : D} (h : Pl d = true) : m_is_binder A [d] S = .ok (.bl (isNon d || placeD d)) S := by
  have v0 : mVar 0 (enter 1 [d]) S = .ok d S := rfl
  unfold m_is_binder
  exact run_ev (ret_ev (or_ev (isn_ev S v0) fun _ => call1 v0 (place_ev A S h)))
theorem mem_no {s : Str} (h : ¬ s = "let") : memS s HOLD = memS s NONE3 := by
  have : (("let" : Str) == s) = false := by rw [beq_eq_false_iff_ne]; exact fun z => h z.symm
  simp [memS, this]
theorem cont_ev {s : Str} {d : D} (hs : Pl (.str s) = true) (h : Pl d = true) : m_is_content A [.str s, d] S = .ok (.bl (contD s d)) S := by
  have v0 : mVar 0 (enter 2 [.str s, d]) S = .ok (.str s) S := rfl
  have v1 : mVar 1 (enter 2 [.str s, d]) S = .ok d S := rfl
  have ok := (pl_str hs).1
  unfold m_is_content
  refine run_ev (ifn_ev (tnot_ev (t_ev (is_str hs v0))) ?_)
  refine (ifr_ev (t_ev (eqS_ev v0 rfl ok)) (fun _ => call1 v1 (name_ev A S h)) (fun _ => ifr_ev (t_ev (eqS_ev v0 rfl ok)) (fun _ => call1 v1 (binder_ev A S h)) (fun _ => ifr_ev (t_ev (eqS_ev v0 rfl ok)) (fun _ => call3 v1 rfl rfl (num_ev A S h 0 99)) (fun _ => ret_ev (and_ev (op_ev v0 rfl (in_tup S s HOLD)) fun _ => isn_ev S v1))))).trans ?_
  unfold contD
  simp only [nb_f, decide_eq_true_eq]
  by_cases h1 : s = "let"
  · simp only [if_pos h1]
  · by_cases h2 : s = "use"
    · simp only [if_neg h1, if_pos h2]
    · by_cases h3 : s = "number"
      · simp only [if_neg h1, if_neg h2, if_pos h3]
      · simp only [if_neg h1, if_neg h2, if_neg h3, mem_no h1]
theorem cont_no {k d : D} (hk : Pl k = true) (hs : isStr k = false) : m_is_content A [k, d] S = .ok (.bl false) S := by
  have v0 : mVar 0 (enter 2 [k, d]) S = .ok k S := rfl
  unfold m_is_content
  refine run_ev (seq_rt (if_t (by rw [tnot_ev (t_ev (is_str hk v0)), hs]; rfl) (ret_ev rfl)))
theorem lcont_ev {s : Str} {d : D} (hs : Pl (.str s) = true) (h : Pl d = true) : m__law_a_content A [.str s, d] S = .ok (.bl (contD s d)) S := by
  have v0 : mVar 0 (enter 2 [.str s, d]) S = .ok (.str s) S := rfl
  have v1 : mVar 1 (enter 2 [.str s, d]) S = .ok d S := rfl
  have ok := (pl_str hs).1
  unfold m__law_a_content
  refine run_ev ?_
  refine (ifr_ev (t_ev (eqS_ev v0 rfl ok)) (fun _ => call1 v1 (lname_ev A S h)) (fun _ => ifr_ev (t_ev (eqS_ev v0 rfl ok)) (fun _ => or_ev (isn_ev S v1) fun _ => call1 v1 (lplace_ev A S h)) (fun _ => ifr_ev (t_ev (eqS_ev v0 rfl ok)) (fun _ => call3 v1 rfl rfl (lwhole_ev A S h 0 99)) (fun _ => ret_ev (and_ev (op_ev v0 (lsts S NONE3 _ rfl) (in_lst S s NONE3)) fun _ => isn_ev S v1))))).trans ?_
  unfold contD
  simp only [nb_f, decide_eq_true_eq]
  by_cases h1 : s = "let"
  · simp only [if_pos h1]
  · by_cases h2 : s = "use"
    · simp only [if_neg h1, if_pos h2]
    · by_cases h3 : s = "number"
      · simp only [if_neg h1, if_neg h2, if_pos h3]
      · simp only [if_neg h1, if_neg h2, if_neg h3]
def kcD (k v : D) : Bool := match k with
  | .str s => contD s v
  | _ => false
def makeD (r : List D) : Bool := match r with
  | [k, u, n, v] => placeD u && numD n 0 999 && kcD k v
  | _ => false
def moveD (r : List D) : Bool := match r with
  | [t, u, n] => placeD t && (placeD u && numD n 0 999)
  | _ => false
def dropD (r : List D) : Bool := match r with
  | [t] => placeD t
  | _ => false
def kindOf (w : Str) : Str := if w = "wish" then "let" else if w = "point" then "use" else "number"
def setsD (w : Str) (r : List D) : Bool := match r with
  | [t, v] => placeD t && contD (kindOf w) v
  | _ => false
def markD (r : List D) : Bool := match r with
  | [t] => stampD t
  | _ => false
abbrev W3 : List Str := ["wish", "point", "set"]
abbrev W2 : List Str := ["undo", "redo"]
def bodyW (w : Str) (r : List D) : Bool := if w = "make" then makeD r else if w = "move" then moveD r else if w = "drop" then dropD r else if memS w W3 = true then setsD w r else memS w W2 && markD r
def bodyD (d : D) : Bool := match d with
  | .tup (.str w :: r) => bodyW w r
  | _ => false
theorem len_neq {ds : List D} {Γ : En} {e : Ed} {S1 : Sto} (h : e Γ S = .ok (.tup ds) S1) (n : Nat) : mOp (dEqA true) (mBlt fLenA (aCons e aNil)) (mC (.int n)) Γ S = .ok (.bl (!decide (ds.length = n))) S1 := by
  refine (eqI_ev (n := true) (len_tup h) rfl).trans ?_
  have : decide ((ds.length : Int) = (n : Int)) = decide (ds.length = n) := by rw [decide_eq_decide]; omega
  rw [nb_t, this]
theorem len_eq {ds : List D} {Γ : En} {e : Ed} {S1 : Sto} (h : e Γ S = .ok (.tup ds) S1) (n : Nat) : mOp (dEqA false) (mBlt fLenA (aCons e aNil)) (mC (.int n)) Γ S = .ok (.bl (decide (ds.length = n))) S1 := by
  refine (eqI_ev (n := false) (len_tup h) rfl).trans ?_
  have : decide ((ds.length : Int) = (n : Int)) = decide (ds.length = n) := by rw [decide_eq_decide]; omega
  rw [nb_f, this]
theorem neq_no {ds : List D} {Γ : En} {e : Ed} {S1 : Sto} (h : e Γ S = .ok (.tup ds) S1) (n : Nat) (hl : ds.length = n) : mT (mOp (dEqA true) (mBlt fLenA (aCons e aNil)) (mC (.int n))) Γ S = .ok false S1 := by
  rw [t_ev (len_neq S h n)]; simp [hl]
theorem neq_yes {ds : List D} {Γ : En} {e : Ed} {S1 : Sto} (h : e Γ S = .ok (.tup ds) S1) (n : Nat) (hl : ds.length ≠ n) : mT (mOp (dEqA true) (mBlt fLenA (aCons e aNil)) (mC (.int n))) Γ S = .ok true S1 := by
  rw [t_ev (len_neq S h n)]; simp [hl]
theorem leq_yes {ds : List D} {Γ : En} {e : Ed} {S1 : Sto} (h : e Γ S = .ok (.tup ds) S1) (n : Nat) (hl : ds.length = n) : mOp (dEqA false) (mBlt fLenA (aCons e aNil)) (mC (.int n)) Γ S = .ok (.bl true) S1 := by
  rw [len_eq S h n]; simp [hl]
theorem leq_no {ds : List D} {Γ : En} {e : Ed} {S1 : Sto} (h : e Γ S = .ok (.tup ds) S1) (n : Nat) (hl : ds.length ≠ n) : mOp (dEqA false) (mBlt fLenA (aCons e aNil)) (mC (.int n)) Γ S = .ok (.bl false) S1 := by
  rw [len_eq S h n]; simp [hl]
/-- a tuple of plain things that begins with a text -/
structure Bod (w : Str) (r : List D) : Prop where
  w : Pl (.str w) = true
  r : ∀ d ∈ r, Pl d = true
theorem make_ev {w : Str} {r : List D} (b : Bod w r) : m_is_make A [.tup (.str w :: r)] S = .ok (.bl (makeD r)) S := by
  have v0 : mVar 0 (enter 1 [.tup (.str w :: r)]) S = .ok (.tup (.str w :: r)) S := rfl
  unfold m_is_make
  by_cases hl : r.length = 4
  · match r, hl, b with
    | [k, u, n, v], _, b =>
      have hk : Pl k = true := b.r k (by simp)
      have hu : Pl u = true := b.r u (by simp)
      have hn : Pl n = true := b.r n (by simp)
      have hv : Pl v = true := b.r v (by simp)
      have t1 : mOr (mT (mOp (dEqA true) (mBlt fLenA (aCons (mVar 0) aNil)) (mC (.int 5)))) (mOr (mNot (mT (mCall 1 (m_is_place_name A) (aCons (mOp dIxA (mVar 0) (mC (.int 2))) aNil)))) (mNot (mT (mCall 3 (m_is_number A) (aCons (mOp dIxA (mVar 0) (mC (.int 3))) (aCons (mC (.int 0)) (aCons (mC (.int 999)) aNil))))))) (enter 1 [.tup [.str w, k, u, n, v]]) S = .ok (!placeD u || !numD n 0 999) S :=
        tor_ev (x := false) (y := !placeD u || !numD n 0 999) (neq_no S v0 5 rfl) fun _ => tor_ev (x := !placeD u) (y := !numD n 0 999) (tnot_ev (t_ev (call1 (ixt_ev 2 v0 rfl) (place_ev A S hu)))) fun _ => tnot_ev (t_ev (call3 (ixt_ev 3 v0 rfl) rfl rfl (num_ev A S hn 0 999)))
      have c : mCall 2 (m_is_content A) (aCons (mOp dIxA (mVar 0) (mC (.int 1))) (aCons (mOp dIxA (mVar 0) (mC (.int 4))) aNil)) (enter 1 [.tup [.str w, k, u, n, v]]) S = .ok (.bl (kcD k v)) S := by
        refine call2 (ixt_ev 1 v0 rfl) (ixt_ev 4 v0 rfl) ?_
        cases k with
        | str s => exact cont_ev A S hk hv
        | _ => exact cont_no A S hk rfl
      refine run_ev ((ifr_ev t1 (fun _ => rfl) (fun _ => ret_ev c)).trans ?_)
      simp only [makeD]
      cases placeD u <;> cases numD n 0 999 <;> rfl
  · have t1 : mT (mOp (dEqA true) (mBlt fLenA (aCons (mVar 0) aNil)) (mC (.int 5))) (enter 1 [.tup (.str w :: r)]) S = .ok true S := by
      exact neq_yes S v0 5 (by simp; omega)
    refine run_ev ((seq_rt (if_t (tor_ev (y := true) t1 (fun z => nomatch z)) (ret_ev rfl))).trans ?_)
    have : makeD r = false := by
      unfold makeD
      split
      · exact absurd rfl hl
      · rfl
    rw [this]
theorem placing_ev {w : Str} {r : List D} (b : Bod w r) : m_is_placing_body A [.tup (.str w :: r)] S = .ok (.bl (if w = "drop" then dropD r else moveD r)) S := by
  have v0 : mVar 0 (enter 1 [.tup (.str w :: r)]) S = .ok (.tup (.str w :: r)) S := rfl
  have ok := (pl_str b.w).1
  unfold m_is_placing_body
  have dr : vAnd (mOp (dEqA false) (mBlt fLenA (aCons (mVar 0) aNil)) (mC (.int 2))) (mCall 1 (m_is_place_name A) (aCons (mOp dIxA (mVar 0) (mC (.int 1))) aNil)) (enter 1 [.tup (.str w :: r)]) S = .ok (.bl (dropD r)) S := by
    match r, b with
    | [t], b => exact and_ev (x := true) (y := placeD t) (leq_yes S v0 2 rfl) fun _ => call1 (ixt_ev 1 v0 rfl) (place_ev A S (b.r t (by simp)))
    | [], b => exact and_ev (x := false) (y := false) (leq_no S v0 2 (by simp)) fun z => nomatch z
    | _ :: _ :: _, b => exact and_ev (x := false) (y := false) (leq_no S v0 2 (by simp)) fun z => nomatch z
  have mo : vAnd (mOp (dEqA false) (mBlt fLenA (aCons (mVar 0) aNil)) (mC (.int 4))) (vAnd (mCall 1 (m_is_place_name A) (aCons (mOp dIxA (mVar 0) (mC (.int 1))) aNil)) (vAnd (mCall 1 (m_is_place_name A) (aCons (mOp dIxA (mVar 0) (mC (.int 2))) aNil)) (mCall 3 (m_is_number A) (aCons (mOp dIxA (mVar 0) (mC (.int 3))) (aCons (mC (.int 0)) (aCons (mC (.int 999)) aNil)))))) (enter 1 [.tup (.str w :: r)]) S = .ok (.bl (moveD r)) S := by
    match r, b with
    | [t, u, n], b => exact and_ev (x := true) (y := placeD t && (placeD u && numD n 0 999)) (leq_yes S v0 4 rfl) fun _ => and_ev (x := placeD t) (y := placeD u && numD n 0 999) (call1 (ixt_ev 1 v0 rfl) (place_ev A S (b.r t (by simp)))) fun _ => and_ev (x := placeD u) (y := numD n 0 999) (call1 (ixt_ev 2 v0 rfl) (place_ev A S (b.r u (by simp)))) fun _ => call3 (ixt_ev 3 v0 rfl) rfl rfl (num_ev A S (b.r n (by simp)) 0 999)
    | [], b => exact and_ev (x := false) (y := false) (leq_no S v0 4 (by simp)) fun z => nomatch z
    | [_], b => exact and_ev (x := false) (y := false) (leq_no S v0 4 (by simp)) fun z => nomatch z
    | [_, _], b => exact and_ev (x := false) (y := false) (leq_no S v0 4 (by simp)) fun z => nomatch z
    | _ :: _ :: _ :: _ :: _, b => exact and_ev (x := false) (y := false) (leq_no S v0 4 (by simp)) fun z => nomatch z
  refine run_ev ((ifr_ev (t_ev (eqS_ev (ixt_ev 0 v0 rfl) rfl ok)) (fun _ => dr) (fun _ => ret_ev mo)).trans ?_)
  simp only [nb_f, decide_eq_true_eq]
  by_cases h : w = "drop"
  · simp only [if_pos h]
  · simp only [if_neg h]
theorem kind_ix {w : Str} (hw : memS w W3 = true) {Γ : En} {e : Ed} (h : e Γ S = .ok (.str w) S) : mOp dIxA (mDct [Sum.inr ("wish" : Str), Sum.inr ("point" : Str), Sum.inr ("set" : Str)] (aCons (mC (.str ("let" : Str))) (aCons (mC (.str ("use" : Str))) (aCons (mC (.str ("number" : Str))) aNil)))) e Γ S = .ok (.str (kindOf w)) S := by
  have e1 : mDct [Sum.inr ("wish" : Str), Sum.inr ("point" : Str), Sum.inr ("set" : Str)] (aCons (mC (.str ("let" : Str))) (aCons (mC (.str ("use" : Str))) (aCons (mC (.str ("number" : Str))) aNil))) Γ S = .ok (.dct [Sum.inr ("wish" : Str), Sum.inr ("point" : Str), Sum.inr ("set" : Str)] [.str "let", .str "use", .str "number"]) S := by
    unfold mDct
    have : aCons (mC (.str ("let" : Str))) (aCons (mC (.str ("use" : Str))) (aCons (mC (.str ("number" : Str))) aNil)) Γ S = .ok [.str "let", .str "use", .str "number"] S := rfl
    rw [this, Res.bind_ok, if_pos ⟨rfl, by decide +kernel, by decide⟩]
  refine op_ev e1 h ?_
  have hw' : w = "wish" ∨ w = "point" ∨ w = "set" := by
    simp only [memS, List.any_cons, List.any_nil, Bool.or_false, Bool.or_eq_true, beq_iff_eq] at hw
    rcases hw with h | h | h
    · exact .inl h.symm
    · exact .inr (.inl h.symm)
    · exact .inr (.inr h.symm)
  rcases hw' with rfl | rfl | rfl <;> rfl
theorem kindOf_pl (w : Str) : Pl (.str (kindOf w)) = true := by
  unfold kindOf
  split
  · decide +kernel
  · split
    · decide +kernel
    · decide +kernel
theorem sets_ev {w : Str} {r : List D} (b : Bod w r) (hw : memS w W3 = true) : m_is_content_body A [.tup (.str w :: r)] S = .ok (.bl (setsD w r)) S := by
  have v0 : mVar 0 (enter 2 [.tup (.str w :: r)]) S = .ok (.tup (.str w :: r)) S := rfl
  unfold m_is_content_body
  by_cases hl : r.length = 2
  · match r, hl, b with
    | [t, v], _, b =>
      have ht : Pl t = true := b.r t (by simp)
      have hv : Pl v = true := b.r v (by simp)
      have t1 : mOr (mT (mOp (dEqA true) (mBlt fLenA (aCons (mVar 0) aNil)) (mC (.int 3)))) (mNot (mT (mCall 1 (m_is_place_name A) (aCons (mOp dIxA (mVar 0) (mC (.int 1))) aNil)))) (enter 2 [.tup [.str w, t, v]]) S = .ok (!placeD t) S :=
        tor_ev (x := false) (y := !placeD t) (neq_no S v0 3 rfl) fun _ => tnot_ev (t_ev (call1 (ixt_ev 1 v0 rfl) (place_ev A S ht)))
      refine run_ev ((ifr_ev t1 (fun _ => rfl) (fun _ => seq_ev (asg_ev (kind_ix S hw (ixt_ev 0 v0 rfl))) (ret_ev (call2 rfl (ixt_ev (ds := [.str w, t, v]) 2 rfl rfl) (cont_ev A S (kindOf_pl w) hv))))).trans ?_)
      simp only [setsD]
      cases placeD t <;> rfl
  · have t1 : mT (mOp (dEqA true) (mBlt fLenA (aCons (mVar 0) aNil)) (mC (.int 3))) (enter 2 [.tup (.str w :: r)]) S = .ok true S := by
      exact neq_yes S v0 3 (by simp; omega)
    refine run_ev ((seq_rt (if_t (tor_ev (y := true) t1 (fun z => nomatch z)) (ret_ev rfl))).trans ?_)
    have : setsD w r = false := by
      unfold setsD
      split
      · exact absurd rfl hl
      · rfl
    rw [this]
end
end K01
end

section
set_option Elab.async false
set_option linter.all false
set_option maxRecDepth 100000
set_option maxHeartbeats 1000000
namespace K01
open PySem PySem.Spec PyProof.Rows L2 Fx
variable [Nam]
/-! ## bodies, deeds: both judges -/
section
variable (A : Ads) (S : Sto)
theorem bodyW_nil (w : Str) : bodyW w [] = false := by
  unfold bodyW
  split
  · rfl
  · split
    · rfl
    · split
      · rfl
      · split
        · rfl
        · simp [markD]
theorem bod_of {w : Str} {r : List D} (h : Pl (.tup (.str w :: r)) = true) : Bod w r := ⟨Pls_mem h _ (by simp), fun d hd => Pls_mem h d (by simp [hd])⟩
theorem lt_len {ds : List D} {Γ : En} {e : Ed} {S1 : Sto} (h : e Γ S = .ok (.tup ds) S1) (n : Nat) : mOp dLt (mBlt fLenA (aCons e aNil)) (mC (.int n)) Γ S = .ok (.bl (decide (ds.length < n))) S1 := by
  refine (op_ev (len_tup h) rfl rfl).trans ?_
  have : decide ((ds.length : Int) < (n : Int)) = decide (ds.length < n) := by rw [decide_eq_decide]; omega
  simp [dLt, dII, this]
theorem mark_ev {w : Str} {r : List D} (b : Bod w r) {Γ : En} {e e2 e3 : Ed} {f : Fn} (h : e Γ S = .ok (.tup (.str w :: r)) S) (h2 : e2 Γ S = .ok (.bl (memS w W2)) S) (h3 : e3 Γ S = .ok (.bl (decide ((.str w :: r).length = 2))) S) (hf : ∀ d, Pl d = true → f [d] S = .ok (.bl (stampD d)) S) :
    vAnd e2 (vAnd e3 (mCall 1 f (aCons (mOp dIxA e (mC (.int 1))) aNil))) Γ S = .ok (.bl (memS w W2 && markD r)) S := by
  refine and_ev h2 fun _ => ?_
  match r, b with
  | [t], b => exact and_ev (x := true) (y := stampD t) h3 fun _ => call1 (ixt_ev 1 h rfl) (hf t (b.r t (by simp)))
  | [], b => exact and_ev (x := false) (y := false) h3 fun z => nomatch z
  | _ :: _ :: _, b =>
    refine and_ev (x := false) (y := false) (h3.trans ?_) fun z => nomatch z
    simp
theorem body_ev {d : D} (h : Pl d = true) : m_is_body A [d] S = .ok (.bl (bodyD d)) S := by
  have v0 : mVar 0 (enter 1 [d]) S = .ok d S := rfl
  unfold m_is_body
  cases d with
  | tup ds =>
    match ds, h with
    | [], h => exact run_ev (seq_rt (if_t (tor_ev (x := false) (y := true) (tnot_ev (t_ev (is_tup h v0))) fun _ => tor_ev (x := true) (y := false) (t_ev (lt_len S v0 2)) fun z => nomatch z) (ret_ev rfl)))
    | [x], h =>
      refine (run_ev (seq_rt (if_t (tor_ev (x := false) (y := true) (tnot_ev (t_ev (is_tup h v0))) fun _ => tor_ev (x := true) (y := false) (t_ev (lt_len S v0 2)) fun z => nomatch z) (ret_ev rfl)))).trans ?_
      cases x <;> simp [bodyD, bodyW_nil]
    | x :: y :: r, h =>
      have hx : Pl x = true := Pls_mem h x (by simp)
      have lt : mT (mOp dLt (mBlt fLenA (aCons (mVar 0) aNil)) (mC (.int 2))) (enter 1 [.tup (x :: y :: r)]) S = .ok false S := by
        exact (t_ev (lt_len S v0 2)).trans (by simp)
      cases x with
      | str w =>
        have b := bod_of h
        have ok := (pl_str b.w).1
        have i0 : mOp dIxA (mVar 0) (mC (.int 0)) (enter 1 [.tup (.str w :: y :: r)]) S = .ok (.str w) S := ixt_ev 0 v0 rfl
        refine run_ev (ifn_ev (tor_ev (x := false) (y := false) (tnot_ev (t_ev (is_tup h v0))) fun _ => tor_ev (x := false) (y := false) lt fun _ => tnot_ev (t_ev (is_str hx i0))) ?_)
        have sets : ∀ z : memS w W3 = true, mCall 1 (m_is_content_body A) (aCons (mVar 0) aNil) (enter 1 [.tup (.str w :: y :: r)]) S = .ok (.bl (setsD w (y :: r))) S := fun z => call1 v0 (sets_ev A S b z)
        refine (ifr_ev (t_ev (eqS_ev i0 rfl ok)) (fun _ => call1 v0 (make_ev A S b)) fun _ => ifr_ev (t_ev (op_ev i0 (show mTup _ _ _ = .ok (.tup ([("move" : Str), "drop"].map D.str)) S from rfl) (in_tup S w ["move", "drop"]))) (fun _ => call1 v0 (placing_ev A S b)) fun _ =>
          ifr_ev (t_ev (op_ev i0 (show mTup _ _ _ = .ok (.tup (W3.map D.str)) S from rfl) (in_tup S w W3))) (fun z => sets z) fun _ => ret_ev (mark_ev S b v0 (op_ev i0 rfl (in_tup S w W2)) (len_eq S v0 2) fun d hd => stamp_ev A S hd)).trans ?_
        simp only [nb_f, decide_eq_true_eq, bodyD, bodyW]
        by_cases h1 : w = "make"
        · simp only [if_pos h1]
        · simp only [if_neg h1]
          have e : memS w ["move", "drop"] = (decide (w = "move") || decide (w = "drop")) := by
            simp only [memS, List.any_cons, List.any_nil, Bool.or_false, eq_comm (a := w)]
            rfl
          rw [e]
          by_cases h2 : w = "move"
          · have h3 : ¬ w = "drop" := fun z => by rw [h2] at z; exact absurd z (by decide +kernel)
            simp only [h2, decide_true, Bool.true_or, if_true]
            rw [if_neg (by rw [← h2]; exact h3)]
          · by_cases h3 : w = "drop"
            · simp only [if_pos h3, if_neg h2, decide_eq_true h3, Bool.or_true, if_true]
            · simp only [if_neg h2, if_neg h3, decide_eq_false h2, decide_eq_false h3, Bool.or_self, Bool.false_eq_true, if_false]
              cases memS w W3 <;> rfl
      | _ =>
        have i0 : mOp dIxA (mVar 0) (mC (.int 0)) (enter 1 [.tup (_ :: y :: r)]) S = .ok _ S := ixt_ev 0 v0 rfl
        exact run_ev (seq_rt (if_t (tor_ev (x := false) (y := true) (tnot_ev (t_ev (is_tup h v0))) fun _ => tor_ev (x := false) (y := true) lt fun _ => tnot_ev (t_ev (is_str hx i0))) (ret_ev rfl)))
  | _ => exact run_ev (seq_rt (if_t (tor_ev (x := true) (y := true) (tnot_ev (t_ev (is_tup h v0))) fun z => nomatch z) (ret_ev rfl)))
def seenD (v : D) (t : Int) : Bool := match v with
  | .tup ds => decide (ds.length = 4) && ds.all fun d => numD d 0 (t - 1)
  | _ => false
def timeOf (s : D) : Int := match s with
  | .tup [.int t, _] => t
  | _ => 0
def deedD (d : D) : Bool := match d with
  | .tup [s, v, b] => stampD s && (seenD v (timeOf s) && bodyD b)
  | _ => false
theorem stamp_of {s : D} (h : stampD s = true) : ∃ t k : Int, s = .tup [.int t, .int k] ∧ 1 ≤ t ∧ t ≤ 999 ∧ 0 ≤ k ∧ k ≤ 3 := by
  unfold stampD pairD at h
  split at h
  · rename_i x y
    rw [Bool.and_eq_true] at h
    cases x <;> simp [numD] at h
    cases y <;> simp [numD] at h
    rename_i t k
    exact ⟨t, k, rfl, h.1.1, h.1.2, h.2.1, h.2.2⟩
  · cases h
theorem numAll (ds : List D) (lo hi : Int) : (ds.map fun d => D.bl (numD d lo hi)) = (ds.map fun d => numD d lo hi).map D.bl := by rw [List.map_map]; rfl
theorem seen_ev {v : D} {t k : Int} (hv : Pl v = true) : m_is_seen A [v, .tup [.int t, .int k]] S = .ok (.bl (seenD v t)) S := by
  have v0 : mVar 0 (enter 3 [v, .tup [.int t, .int k]]) S = .ok v S := rfl
  have v1 : mVar 1 (enter 3 [v, .tup [.int t, .int k]]) S = .ok (.tup [.int t, .int k]) S := rfl
  unfold m_is_seen
  refine run_ev (ret_ev ?_)
  have four : mOp (dAdd true) (mC (.int 3)) (mC (.int 1)) (enter 3 [v, .tup [.int t, .int k]]) S = .ok (.int (4 : Nat)) S := rfl
  cases v with
  | tup ds =>
    by_cases hl : ds.length = 4
    · refine (and_ev (S1 := S) (x := true) (y := ds.all fun d => numD d 0 (t - 1)) ?_ fun _ => ?_).trans ?_
      · refine (call2 v0 four (tupOf_ev A S hv 4)).trans ?_
        simp [tupN, hl]
      · have e := lc_all (f := true) (vs := [2]) (j := 2) (elt := mCall 3 (m_is_number A) (aCons (mVar 2) (aCons (mC (.int 0)) (aCons (mOp dSub (mOp dIxA (mVar 1) (mC (.int 0))) (mC (.int 1))) aNil)))) (any_tup v0) (its_tup ds S) (fun d => .bl (numD d 0 (t - 1))) (fun x hx => by
          have ev : mVar 1 ((wipeE (enter 3 [.tup ds, .tup [.int t, .int k]]) [2]).set 2 (some x)) S = .ok (.tup [.int t, .int k]) S := rfl
          exact call3 rfl rfl (op_ev (ixt_ev 0 ev rfl) rfl rfl) (num_ev A S (Pls_mem hv x hx) 0 (t - 1))) (by rw [hl]; decide)
        rw [numAll] at e
        have := all_bls S _ e
        rw [List.all_map] at this
        exact this
      · simp [seenD, hl]
    · refine (and_ev (S1 := S) (x := false) (y := false) ?_ fun z => nomatch z).trans ?_
      · refine (call2 v0 four (tupOf_ev A S hv 4)).trans ?_
        simp [tupN, hl]
      · simp [seenD, hl]
  | _ =>
    refine (and_ev (S1 := S) (x := false) (y := false) ?_ fun z => nomatch z).trans rfl
    exact (call2 v0 four (tupOf_ev A S hv 4)).trans rfl
theorem tup3 {d : D} (h : tupN d 3 = true) : ∃ x y z, d = .tup [x, y, z] := by
  cases d with
  | tup ds =>
    simp [tupN] at h
    match ds, h with
    | [x, y, z], _ => exact ⟨x, y, z, rfl⟩
  | _ => simp [tupN] at h
theorem deed_no {d : D} (h : tupN d 3 = false) : deedD d = false := by
  unfold deedD
  split
  · simp [tupN] at h
  · rfl
theorem deed_ev {d : D} (h : Pl d = true) : m_is_deed A [d] S = .ok (.bl (deedD d)) S := by
  have v0 : mVar 0 (enter 1 [d]) S = .ok d S := rfl
  unfold m_is_deed
  cases h3 : tupN d 3 with
  | false =>
    rw [deed_no h3]
    exact run_ev (seq_rt (if_t (tor_ev (x := true) (y := true) ((tnot_ev (t_ev (call2 v0 rfl (tupOf_ev A S h 3)))).trans (by rw [h3]; rfl)) fun z => nomatch z) (ret_ev rfl)))
  | true =>
    obtain ⟨s, v, b, rfl⟩ := tup3 h3
    have hs : Pl s = true := Pls_mem h s (by simp)
    have hv : Pl v = true := Pls_mem h v (by simp)
    have hb : Pl b = true := Pls_mem h b (by simp)
    cases hst : stampD s with
    | false =>
      have : deedD (.tup [s, v, b]) = false := by simp [deedD, hst]
      rw [this]
      exact run_ev (seq_rt (if_t (tor_ev (x := false) (y := true) (tnot_ev (t_ev (call2 v0 rfl (tupOf_ev A S h 3)))) fun _ => (tnot_ev (t_ev (call1 (ixt_ev 0 v0 rfl) (stamp_ev A S hs)))).trans (by rw [hst]; rfl)) (ret_ev rfl)))
    | true =>
      obtain ⟨t, k, rfl, _⟩ := stamp_of hst
      refine run_ev (ifn_ev (tor_ev (x := false) (y := false) (tnot_ev (t_ev (call2 v0 rfl (tupOf_ev A S h 3)))) fun _ => (tnot_ev (t_ev (call1 (ixt_ev 0 v0 rfl) (stamp_ev A S hs)))).trans (by rw [hst]; rfl)) (ret_ev ?_))
      refine (and_ev (call2 (ixt_ev 1 v0 rfl) (ixt_ev 0 v0 rfl) (seen_ev A S hv)) fun _ => call1 (ixt_ev 2 v0 rfl) (body_ev A S hb)).trans ?_
      simp [deedD, hst, timeOf]
end
end K01
end

section
set_option Elab.async false
set_option linter.all false
set_option maxRecDepth 100000
set_option maxHeartbeats 1000000
namespace K01
open PySem PySem.Spec PyProof.Rows L2 Fx
variable [Nam]
/-! ## the law's own body and deed -/
section
variable (A : Ads) (S : Sto)
theorem par_ev {i j : Nat} {a b : Ed} {Γ : En} {S0 S1 S2 : Sto} {d e : D} (h1 : a Γ S0 = .ok d S1) (h2 : b Γ S1 = .ok e S2) : sPar i j (aCons a (aCons b aNil)) Γ S0 = .nx ((Γ.set i (some d)).set j (some e)) S2 := by
  simp [sPar, aCons, h1, h2]
theorem eqT (ds : List D) : dEqA false (.tup ds) (.tup []) S = .ok (.bl ds.isEmpty) S := by
  simp [dEqA, eqE, seqK]
theorem in_l (l : List Str) {x : Str} {Γ : En} {e : Ed} (h : e Γ S = .ok (.str x) S) (a : Ad) (ha : a Γ S = .ok (l.map D.str) S) (hl : l.length ≤ 64 := by decide) : mOp (dInA false) e (mLst true a) Γ S = .ok (.bl (memS x l)) S := op_ev h (lsts S l a ha hl) (in_lst S x l)
theorem eqn_yes {Γ : En} {e : Ed} {i n : Int} (h : e Γ S = .ok (.int i) S) (hi : i = n) : mOp (dEqA false) e (mC (.int n)) Γ S = .ok (.bl true) S := by
  rw [eqI_ev h rfl]; simp [hi]
theorem eqn_no {Γ : En} {e : Ed} {i n : Int} (h : e Γ S = .ok (.int i) S) (hi : i ≠ n) : mOp (dEqA false) e (mC (.int n)) Γ S = .ok (.bl false) S := by
  rw [eqI_ev h rfl]; simp [hi]
theorem nen_yes {Γ : En} {e : Ed} {i n : Int} (h : e Γ S = .ok (.int i) S) (hi : i ≠ n) : mT (mOp (dEqA true) e (mC (.int n))) Γ S = .ok true S := by
  rw [t_ev (eqI_ev h rfl)]; simp [hi]
theorem nen_no {Γ : En} {e : Ed} {i n : Int} (h : e Γ S = .ok (.int i) S) (hi : i = n) : mT (mOp (dEqA true) e (mC (.int n))) Γ S = .ok false S := by
  rw [t_ev (eqI_ev h rfl)]; simp [hi]
theorem lmake_ev {w : Str} {r : List D} (b : Bod w r) {Γ : En} (v0 : mVar 0 Γ S = .ok (.tup (.str w :: r)) S) (v2 : mVar 2 Γ S = .ok (.int (.str w :: r : List D).length) S) :
    sSeq (sIf (mOr (mT (mOp (dEqA true) (mVar 2) (mC (.int 5)))) (mOr (mNot (mT (mIsiA "str" (mOp dIxA (mVar 0) (mC (.int 1)))))) (mNot (mT (mCall 1 (m__law_a_place A) (aCons (mOp dIxA (mVar 0) (mC (.int 2))) aNil)))))) (sRet (mC (.bl false))) sPass) (sRet (vAnd (mCall 3 (m__law_whole A) (aCons (mOp dIxA (mVar 0) (mC (.int 3))) (aCons (mC (.int 0)) (aCons (mC (.int 999)) aNil)))) (mCall 2 (m__law_a_content A) (aCons (mOp dIxA (mVar 0) (mC (.int 1))) (aCons (mOp dIxA (mVar 0) (mC (.int 4))) aNil))))) Γ S = .rt (.bl (makeD r)) S := by
  by_cases hl : r.length = 4
  · match r, hl, b with
    | [k, u, n, v], _, b =>
      have hk : Pl k = true := b.r k (by simp)
      have hu : Pl u = true := b.r u (by simp)
      have hn : Pl n = true := b.r n (by simp)
      have hv : Pl v = true := b.r v (by simp)
      have no := nen_no (n := 5) S v2 rfl
      cases k with
      | str s =>
        refine (ifr_ev (tor_ev (x := false) (y := false || !placeD u) no fun _ => tor_ev (x := false) (y := !placeD u) (tnot_ev (t_ev (is_str hk (ixt_ev 1 v0 rfl)))) fun _ => tnot_ev (t_ev (call1 (ixt_ev 2 v0 rfl) (lplace_ev A S hu)))) (fun _ => rfl) fun _ => ret_ev (and_ev (call3 (ixt_ev 3 v0 rfl) rfl rfl (lwhole_ev A S hn 0 999)) fun _ => call2 (ixt_ev 1 v0 rfl) (ixt_ev 4 v0 rfl) (lcont_ev A S hk hv))).trans ?_
        simp only [makeD, kcD]
        cases placeD u <;> cases numD n 0 999 <;> rfl
      | _ =>
        refine (seq_rt (if_t (tor_ev (x := false) (y := true) no fun _ => tor_ev (x := true) (y := true) (tnot_ev (t_ev (is_str hk (ixt_ev 1 v0 rfl)))) fun z => nomatch z) (ret_ev rfl))).trans ?_
        simp [makeD, kcD]
  · refine (seq_rt (if_t (tor_ev (x := true) (y := true) (nen_yes (n := 5) S v2 (by simp; omega)) (fun z => nomatch z)) (ret_ev rfl))).trans ?_
    have : makeD r = false := by
      unfold makeD
      split
      · exact absurd rfl hl
      · rfl
    rw [this]
theorem lbody_ev {d : D} (h : Pl d = true) : m__law_a_body A [d] S = .ok (.bl (bodyD d)) S := by
  have v0 : mVar 0 (enter 4 [d]) S = .ok d S := rfl
  unfold m__law_a_body
  cases d with
  | tup ds =>
    match ds, h with
    | [], h => exact run_ev (seq_rt (if_t (tor_ev (x := false) (y := true) (tnot_ev (t_ev (is_tup h v0))) fun _ => tor_ev (x := true) (y := false) (t_ev (op_ev v0 rfl (eqT S []))) fun z => nomatch z) (ret_ev rfl)))
    | x :: r, h =>
      have hx : Pl x = true := Pls_mem h x (by simp)
      have ne : mT (mOp (dEqA false) (mVar 0) (mTup aNil)) (enter 4 [.tup (x :: r)]) S = .ok false S := (t_ev (op_ev v0 rfl (eqT S (x :: r))))
      cases x with
      | str w =>
        have b := bod_of h
        have ok := (pl_str b.w).1
        have i0 : mOp dIxA (mVar 0) (mC (.int 0)) (enter 4 [.tup (.str w :: r)]) S = .ok (.str w) S := ixt_ev 0 v0 rfl
        refine run_ev (ifn_ev (tor_ev (x := false) (y := false) (tnot_ev (t_ev (is_tup h v0))) fun _ => tor_ev (x := false) (y := false) ne fun _ => tnot_ev (t_ev (is_str hx i0))) ?_)
        refine seq_ev (par_ev i0 (len_tup v0)) ?_
        generalize hΓ : (List.set (List.set (enter 4 [.tup (.str w :: r)]) 1 (some (.str w))) 2 (some (.int (.str w :: r : List D).length))) = Γ
        have w0 : mVar 0 Γ S = .ok (.tup (.str w :: r)) S := by rw [← hΓ]; rfl
        have w1 : mVar 1 Γ S = .ok (.str w) S := by rw [← hΓ]; rfl
        have w2 : mVar 2 Γ S = .ok (.int (.str w :: r : List D).length) S := by rw [← hΓ]; rfl
        have q : ∀ c : Str, PyData.strOk c = true → mT (mOp (dEqA false) (mVar 1) (mC (.str c))) Γ S = .ok (decide (w = c)) S := fun c hc => t_ev (eqS_ev w1 rfl ok hc)
        show _ = SR.rt (.bl (bodyW w r)) S
        unfold bodyW
        by_cases h1 : w = "make"
        · rw [if_pos h1]
          exact seq_rt (if_t ((q "make" (by decide +kernel)).trans (by rw [decide_eq_true h1])) (lmake_ev A S b w0 w2))
        · rw [if_neg h1]
          refine ifn_ev ((q "make" (by decide +kernel)).trans (by rw [decide_eq_false h1])) ?_
          by_cases h2 : w = "move"
          · rw [if_pos h2]
            refine seq_rt (if_t ((q "move" (by decide +kernel)).trans (by rw [decide_eq_true h2])) (ret_ev ?_))
            match r, b, w0, w2 with
            | [t, u, n], b, w0, w2 => exact and_ev (x := true) (y := placeD t && (placeD u && numD n 0 999)) (eqn_yes (n := 4) S w2 rfl) fun _ => and_ev (x := placeD t) (y := placeD u && numD n 0 999) (call1 (ixt_ev 1 w0 rfl) (lplace_ev A S (b.r t (by simp)))) fun _ => and_ev (x := placeD u) (y := numD n 0 999) (call1 (ixt_ev 2 w0 rfl) (lplace_ev A S (b.r u (by simp)))) fun _ => call3 (ixt_ev 3 w0 rfl) rfl rfl (lwhole_ev A S (b.r n (by simp)) 0 999)
            | [], b, w0, w2 => exact and_ev (x := false) (y := false) (eqn_no (n := 4) S w2 (by simp)) fun z => nomatch z
            | [_], b, w0, w2 => exact and_ev (x := false) (y := false) (eqn_no (n := 4) S w2 (by simp)) fun z => nomatch z
            | [_, _], b, w0, w2 => exact and_ev (x := false) (y := false) (eqn_no (n := 4) S w2 (by simp)) fun z => nomatch z
            | _ :: _ :: _ :: _ :: _, b, w0, w2 => exact and_ev (x := false) (y := false) (eqn_no (n := 4) S w2 (by simp; omega)) fun z => nomatch z
          · rw [if_neg h2]
            refine ifn_ev ((q "move" (by decide +kernel)).trans (by rw [decide_eq_false h2])) ?_
            by_cases h3 : w = "drop"
            · rw [if_pos h3]
              refine seq_rt (if_t ((q "drop" (by decide +kernel)).trans (by rw [decide_eq_true h3])) (ret_ev ?_))
              match r, b, w0, w2 with
              | [t], b, w0, w2 => exact and_ev (x := true) (y := placeD t) (eqn_yes (n := 2) S w2 rfl) fun _ => call1 (ixt_ev 1 w0 rfl) (lplace_ev A S (b.r t (by simp)))
              | [], b, w0, w2 => exact and_ev (x := false) (y := false) (eqn_no (n := 2) S w2 (by simp)) fun z => nomatch z
              | _ :: _ :: _, b, w0, w2 => exact and_ev (x := false) (y := false) (eqn_no (n := 2) S w2 (by simp; omega)) fun z => nomatch z
            · rw [if_neg h3]
              refine ifn_ev ((q "drop" (by decide +kernel)).trans (by rw [decide_eq_false h3])) ?_
              have tw : mT (mOp (dInA false) (mVar 1) (mLst true (aCons (mC (.str ("wish" : Str))) (aCons (mC (.str ("point" : Str))) (aCons (mC (.str ("set" : Str))) aNil))))) Γ S = .ok (memS w W3) S := t_ev (in_l S W3 w1 _ rfl)
              by_cases h4 : memS w W3 = true
              · rw [if_pos h4]
                refine seq_rt (if_t (tw.trans (by rw [h4])) (seq_ev (asg_ev (kind_ix S h4 w1)) (ret_ev ?_)))
                have u0 : mVar 0 (Γ.set 3 (some (.str (kindOf w)))) S = .ok (.tup (.str w :: r)) S := by rw [← hΓ]; rfl
                have u2 : mVar 2 (Γ.set 3 (some (.str (kindOf w)))) S = .ok (.int (.str w :: r : List D).length) S := by rw [← hΓ]; rfl
                have u3 : mVar 3 (Γ.set 3 (some (.str (kindOf w)))) S = .ok (.str (kindOf w)) S := by rw [← hΓ]; rfl
                match r, b, u0, u2 with
                | [t, v], b, u0, u2 => exact and_ev (x := true) (y := placeD t && contD (kindOf w) v) (eqn_yes (n := 3) S u2 rfl) fun _ => and_ev (x := placeD t) (y := contD (kindOf w) v) (call1 (ixt_ev 1 u0 rfl) (lplace_ev A S (b.r t (by simp)))) fun _ => call2 u3 (ixt_ev 2 u0 rfl) (lcont_ev A S (kindOf_pl w) (b.r v (by simp)))
                | [], b, u0, u2 => exact and_ev (x := false) (y := false) (eqn_no (n := 3) S u2 (by simp)) fun z => nomatch z
                | [_], b, u0, u2 => exact and_ev (x := false) (y := false) (eqn_no (n := 3) S u2 (by simp)) fun z => nomatch z
                | _ :: _ :: _ :: _, b, u0, u2 => exact and_ev (x := false) (y := false) (eqn_no (n := 3) S u2 (by simp; omega)) fun z => nomatch z
              · rw [if_neg h4]
                refine ifn_ev (tw.trans (by rw [Bool.eq_false_iff.mpr h4])) (ret_ev (mark_ev S b w0 (in_l S W2 w1 _ rfl) ?_ fun d hd => lstamp_ev A S hd))
                refine (eqI_ev w2 rfl).trans ?_
                rw [nb_f]
                have : decide (((.str w :: r : List D).length : Int) = 2) = decide ((.str w :: r : List D).length = 2) := by rw [decide_eq_decide]; omega
                rw [this]
      | _ =>
        have i0 : mOp dIxA (mVar 0) (mC (.int 0)) (enter 4 [.tup (_ :: r)]) S = .ok _ S := ixt_ev 0 v0 rfl
        exact run_ev (seq_rt (if_t (tor_ev (x := false) (y := true) (tnot_ev (t_ev (is_tup h v0))) fun _ => tor_ev (x := false) (y := true) ne fun _ => tnot_ev (t_ev (is_str hx i0))) (ret_ev rfl)))
  | _ => exact run_ev (seq_rt (if_t (tor_ev (x := true) (y := true) (tnot_ev (t_ev (is_tup h v0))) fun z => nomatch z) (ret_ev rfl)))
theorem flt_num (ds : List D) (lo hi : Int) : ((ds.filter fun d => !numD d lo hi).map id).isEmpty = ds.all fun d => numD d lo hi := by
  induction ds with
  | nil => rfl
  | cons d ds ih =>
    cases hq : numD d lo hi with
    | true => simpa [List.filter_cons, hq] using ih
    | false => simp [List.filter_cons, hq]
theorem ldeed_ev {d : D} (h : Pl d = true) : m__law_a_deed A [d] S = .ok (.bl (deedD d)) S := by
  have v0 : mVar 0 (enter 2 [d]) S = .ok d S := rfl
  unfold m__law_a_deed
  cases h3 : tupN d 3 with
  | false =>
    rw [deed_no h3]
    refine run_ev (seq_rt (if_t ?_ (ret_ev rfl)))
    cases d with
    | tup ds =>
      have hl : ds.length ≠ 3 := by simpa [tupN] using h3
      exact tor_ev (x := false) (y := true) (tnot_ev (t_ev (is_tup h v0))) fun _ => tor_ev (x := true) (y := true) (neq_yes S v0 3 hl) fun z => nomatch z
    | _ => exact tor_ev (x := true) (y := true) (tnot_ev (t_ev (is_tup h v0))) fun z => nomatch z
  | true =>
    obtain ⟨s, v, b, rfl⟩ := tup3 h3
    have hs : Pl s = true := Pls_mem h s (by simp)
    have hv : Pl v = true := Pls_mem h v (by simp)
    have hb : Pl b = true := Pls_mem h b (by simp)
    have no3 := neq_no S v0 3 rfl
    cases hst : stampD s with
    | false =>
      have : deedD (.tup [s, v, b]) = false := by simp [deedD, hst]
      rw [this]
      exact run_ev (seq_rt (if_t (tor_ev (x := false) (y := true) (tnot_ev (t_ev (is_tup h v0))) fun _ => tor_ev (x := false) (y := true) no3 fun _ => (tnot_ev (t_ev (call1 (ixt_ev 0 v0 rfl) (lstamp_ev A S hs)))).trans (by rw [hst]; rfl)) (ret_ev rfl)))
    | true =>
      obtain ⟨t, k, rfl, _⟩ := stamp_of hst
      refine run_ev (ifn_ev (tor_ev (x := false) (y := false) (tnot_ev (t_ev (is_tup h v0))) fun _ => tor_ev (x := false) (y := false) no3 fun _ => (tnot_ev (t_ev (call1 (ixt_ev 0 v0 rfl) (lstamp_ev A S hs)))).trans (by rw [hst]; rfl)) ?_)
      have i1 : mOp dIxA (mVar 0) (mC (.int 1)) (enter 2 [.tup [.tup [.int t, .int k], v, b]]) S = .ok v S := ixt_ev 1 v0 rfl
      have dd : deedD (.tup [.tup [.int t, .int k], v, b]) = (seenD v t && bodyD b) := by simp [deedD, hst, timeOf]
      rw [dd]
      cases v with
      | tup ds =>
        by_cases hl : ds.length = 4
        · refine ifn_ev (tor_ev (x := false) (y := false) (tnot_ev (t_ev (is_tup hv i1))) fun _ => neq_no S i1 4 hl) ?_
          have e := lc_ev (f := true) (vs := [1]) (j := 1) (cnd := mNot (mT (mCall 3 (m__law_whole A) (aCons (mVar 1) (aCons (mC (.int 0)) (aCons (mOp dSub (mOp dIxA (mOp dIxA (mVar 0) (mC (.int 0))) (mC (.int 0))) (mC (.int 1))) aNil)))))) (elt := mVar 1) (any_tup i1) (its_tup ds S) (fun d => !numD d 0 (t - 1)) id (fun x hx => by
            have w0 : mVar 0 ((wipeE (enter 2 [.tup [.tup [.int t, .int k], .tup ds, b]]) [1]).set 1 (some x)) S = .ok (.tup [.tup [.int t, .int k], .tup ds, b]) S := rfl
            have w00 : mOp dIxA (mVar 0) (mC (.int 0)) ((wipeE (enter 2 [.tup [.tup [.int t, .int k], .tup ds, b]]) [1]).set 1 (some x)) S = .ok (.tup [.int t, .int k]) S := ixt_ev 0 w0 rfl
            exact ⟨tnot_ev (t_ev (call3 rfl rfl (op_ev (ixt_ev 0 w00 rfl) rfl rfl) (lwhole_ev A S (Pls_mem hv x hx) 0 (t - 1)))), fun _ => rfl⟩) (by rw [hl]; decide)
          have e2 := t_ev (op_ev (g := dEqA true) e (show mLst true aNil (enter 2 [.tup [.tup [.int t, .int k], .tup ds, b]]) S = .ok (.lst []) S from rfl) (eqNil S true _))
          rw [flt_num, nb_t] at e2
          refine (ifr_ev e2 (fun _ => rfl) fun _ => ret_ev (call1 (ixt_ev 2 v0 rfl) (lbody_ev A S hb))).trans ?_
          simp only [seenD, hl, decide_true, Bool.true_and]
          cases ds.all fun d => numD d 0 (t - 1) <;> rfl
        · refine (seq_rt (if_t (tor_ev (x := false) (y := true) (tnot_ev (t_ev (is_tup hv i1))) fun _ => neq_yes S i1 4 hl) (ret_ev rfl))).trans ?_
          simp [seenD, hl]
      | _ => exact seq_rt (if_t (tor_ev (x := true) (y := true) (tnot_ev (t_ev (is_tup hv i1))) fun z => nomatch z) (ret_ev rfl))
end
end K01
end

section
set_option Elab.async false
set_option linter.all false
set_option maxRecDepth 100000
set_option maxHeartbeats 1000000
namespace K01
open PySem PySem.Spec PyProof.Rows L2 Fx
variable [Nam]
/-! ## texts of small things -/
def TX1 (n : Nat) (t : Str) : Prop := PyData.strOk t = true ∧ t.length ≤ n
instance (n : Nat) (t : Str) : Decidable (TX1 n t) := by unfold TX1; infer_instance
theorem strOk_app (x y : Str) : PyData.strOk (x ++ y) = (PyData.strOk x && PyData.strOk y) := by
  show (x.cps ++ y.cps).all _ = _
  rw [Array.all_append]
  rfl
theorem TX1.app {n m : Nat} {x y : Str} (h : TX1 n x) (k : TX1 m y) : TX1 (n + m) (x ++ y) := ⟨by rw [strOk_app, h.1, k.1]; rfl, by rw [strLen_append]; have := h.2; have := k.2; omega⟩
theorem TX1.le {n m : Nat} {x : Str} (h : TX1 n x) (k : n ≤ m) : TX1 m x := ⟨h.1, Nat.le_trans h.2 k⟩
theorem join_tx {n : Nat} : ∀ {ts : List Str}, (∀ t ∈ ts, TX1 n t) → TX1 (ts.length * (n + 2)) (Str.join ", " ts)
  | [], _ => (show TX1 0 (Str.join ((", " : String) : Str) []) by decide +kernel).le (Nat.zero_le _)
  | [x], h => (h x (by simp)).le (by simp)
  | x :: y :: r, h => by
    have ih := join_tx (ts := y :: r) fun t ht => h t (List.mem_cons_of_mem _ ht)
    have hx := h x (by simp)
    have hc : TX1 2 ((", " : String) : Str) := by decide +kernel
    have := (hx.app hc).app ih
    exact this.le (by simp [Nat.succ_mul]; omega)
theorem tuple_tx {n : Nat} {ts : List Str} (h : ∀ t ∈ ts, TX1 n t) : TX1 (ts.length * (n + 2) + 4) (tupleText ts) := by
  have h1 : TX1 1 ("(" : Str) := by decide +kernel
  have h2 : TX1 2 (((if ts.length == 1 then ",)" else ")" : String)) : Str) := by split <;> decide +kernel
  exact ((h1.app (join_tx h)).app h2).le (by omega)
theorem from_tx {n : Nat} : ∀ {ts : List Str} {k m : Nat} {acc : Str}, TX1 m acc → (∀ t ∈ ts, TX1 n t) → TX1 (m + ts.length * (n + 2)) (textFrom k acc ts)
  | [], k, m, acc, ha, _ => ha.le (by omega)
  | t :: r, k, m, acc, ha, h => by
    have h2 : TX1 2 (((if k > 0 then ", " else "" : String)) : Str) := by split <;> decide +kernel
    have := from_tx (ts := r) (k := k + 1) ((ha.app h2).app (h t (by simp))) fun t ht => h t (List.mem_cons_of_mem _ ht)
    exact this.le (by simp [Nat.succ_mul]; omega)
theorem list_tx {n : Nat} {ts : List Str} (h : ∀ t ∈ ts, TX1 n t) : TX1 (ts.length * (n + 2) + 4) (listText ts) := by
  have h1 : TX1 1 ("[" : Str) := by decide +kernel
  have h2 : TX1 1 ("]" : Str) := by decide +kernel
  exact ((from_tx h1 h).app h2).le (by omega)
def TXT : List Str := ["", "x", "X", "abcde", "a1", "let", "block", "make", "none", "1", "0", "drop", "y", "abcd", "move", "wish", "point", "set", "undo", "redo", "use", "number", "sum", "product"]
theorem txt_ok : ∀ x ∈ TXT, PyData.strOk x = true ∧ x.length ≤ 64 ∧ TX1 16 (reprText x) := by decide +kernel
theorem int_tx0 : ∀ n : Nat, n < 1010 → TX1 16 ((toString ((n : Int) - 2) : String) : Str) := by decide +kernel
theorem int_tx {i : Int} (h0 : -2 ≤ i) (h1 : i ≤ 1000) : TX1 16 ((toString i : String) : Str) := by
  have := int_tx0 (i + 2).toNat (by omega)
  have e : (((i + 2).toNat : Nat) : Int) - 2 = i := by omega
  rwa [e] at this
theorem int_show {i : Int} (h0 : -2 ≤ i) (h1 : i ≤ 1000) : i.natAbs.log2 < 1920 := by
  have hn : i.natAbs < 2 ^ 1920 := Nat.lt_of_lt_of_le (show i.natAbs < 2 ^ 10 by omega) (Nat.pow_le_pow_right (by decide) (by decide))
  by_cases z : i.natAbs = 0
  · rw [z]; decide
  · exact (Nat.log2_lt z).mpr hn
/-- small things; l: lists, or else empty dicts -/
def Sm (l : Bool) : Nat → D → Bool
  | _, .non => true
  | _, .bl _ => true
  | _, .int i => decide (-2 ≤ i) && decide (i ≤ 1000)
  | _, .str x => decide (x ∈ TXT)
  | k + 1, .tup ds => decide (ds.length ≤ 6) && ds.all (Sm l k)
  | k + 1, .lst ds => l && (decide (ds.length ≤ 6) && ds.all (Sm l k))
  | _ + 1, .dct [] [] => !l
  | _, _ => false
def Bnd : Nat → Nat
  | 0 => 16
  | k + 1 => 6 * (Bnd k + 2) + 16
theorem Bnd_mono : ∀ k, Bnd k ≤ Bnd (k + 1) := fun k => by show Bnd k ≤ 6 * (Bnd k + 2) + 16; omega
structure Shows (l : Bool) (k : Nat) (d : D) (e : PyData) : Prop where
  py : pyD d = some e
  sh : e.showable = true
  tx : TX1 (Bnd k) e.shown
  dp : e.depth ≤ k
  dl : if l = true then e.hasDict = false else noL e = true
theorem Bnd16 : ∀ k, 16 ≤ Bnd k
  | 0 => Nat.le_refl _
  | k + 1 => by show 16 ≤ 6 * (Bnd k + 2) + 16; omega
theorem shows_all {l : Bool} {k : Nat} {ds : List D} (h : ∀ d ∈ ds, ∃ e, Shows l k d e) : ∃ es, pyDs ds = some es ∧ PyData.showableAll es = true ∧ (PyData.shownAll es).length = ds.length ∧ (∀ t ∈ PyData.shownAll es, TX1 (Bnd k) t) ∧ PyData.depthAll es ≤ k ∧ (if l = true then PyData.hasDictAll es = false else noLs es = true) := by
  induction ds with
  | nil => exact ⟨[], rfl, by simp [PyData.showableAll], by simp [PyData.shownAll], by simp [PyData.shownAll], by simp [PyData.depthAll], by split <;> simp [PyData.hasDictAll, noLs]⟩
  | cons d ds ih =>
    obtain ⟨e, he⟩ := h d (by simp)
    obtain ⟨es, h1, h2, h3, h4, h5, h6⟩ := ih fun x hx => h x (List.mem_cons_of_mem _ hx)
    refine ⟨e :: es, by simp [pyDs, he.py, h1], by simp [PyData.showableAll, he.sh, h2], by simp [PyData.shownAll, h3], fun t ht => ?_, ?_, ?_⟩
    · simp only [PyData.shownAll, List.mem_cons] at ht
      rcases ht with rfl | ht
      · exact he.tx
      · exact h4 t ht
    · simp only [PyData.depthAll]
      have := he.dp
      omega
    · have := he.dl
      cases l <;> simp_all [PyData.hasDictAll, noLs]
theorem sm_shows (l : Bool) : ∀ (k : Nat) (d : D), Sm l k d = true → ∃ e, Shows l k d e
  | k, .non, _ => ⟨.none, rfl, by simp [PyData.showable], (show TX1 16 PyData.none.shown by simp only [PyData.shown]; decide +kernel).le (Bnd16 k), by simp [PyData.depth], by split <;> simp [PyData.hasDict, noL]⟩
  | k, .bl b, _ => ⟨.bool b, rfl, by simp [PyData.showable], (show TX1 16 (PyData.bool b).shown by simp only [PyData.shown]; cases b <;> decide +kernel).le (Bnd16 k), by simp [PyData.depth], by split <;> simp [PyData.hasDict, noL]⟩
  | k, .int i, h => by
    have h : (decide (-2 ≤ i) && decide (i ≤ 1000)) = true := by cases k <;> exact h
    rw [Bool.and_eq_true, decide_eq_true_eq, decide_eq_true_eq] at h
    exact ⟨.int i, rfl, by simp [PyData.showable, int_show h.1 h.2], (show TX1 16 (PyData.int i).shown by simp only [PyData.shown]; exact int_tx h.1 h.2).le (Bnd16 k), by simp [PyData.depth], by split <;> simp [PyData.hasDict, noL]⟩
  | k, .str x, h => by
    have h : decide (x ∈ TXT) = true := by cases k <;> exact h
    have hx := txt_ok x (of_decide_eq_true h)
    exact ⟨.str x, rfl, by simp [PyData.showable], (show TX1 16 (PyData.str x).shown by simp only [PyData.shown]; exact hx.2.2).le (Bnd16 k), by simp [PyData.depth], by split <;> simp [PyData.hasDict, noL]⟩
  | 0, .tup ds, h => by cases h
  | k + 1, .tup ds, h => by
    rw [Sm, Bool.and_eq_true, decide_eq_true_eq, List.all_eq_true] at h
    obtain ⟨es, h1, h2, h3, h4, h5, h6⟩ := shows_all fun d hd => sm_shows l k d (h.2 d hd)
    refine ⟨.tuple es, by simp [pyD, h1], by simp [PyData.showable, h2], ?_, by simp only [PyData.depth]; omega, by cases l <;> simp_all [PyData.hasDict, noL]⟩
    simp only [PyData.shown]
    have := tuple_tx h4
    rw [h3] at this
    exact this.le (by show _ ≤ 6 * (Bnd k + 2) + 16; have := Nat.mul_le_mul_right (Bnd k + 2) h.1; omega)
  | 0, .lst ds, h => by cases h
  | k + 1, .lst ds, h => by
    rw [Sm, Bool.and_eq_true, Bool.and_eq_true, decide_eq_true_eq, List.all_eq_true] at h
    obtain ⟨hl, h⟩ := h
    subst hl
    obtain ⟨es, h1, h2, h3, h4, h5, h6⟩ := shows_all fun d hd => sm_shows true k d (h.2 d hd)
    refine ⟨.list es, by simp [pyD, h1], by simp [PyData.showable, h2], ?_, by simp only [PyData.depth]; omega, by simpa [PyData.hasDict] using h6⟩
    simp only [PyData.shown]
    have := list_tx h4
    rw [h3] at this
    exact this.le (by show _ ≤ 6 * (Bnd k + 2) + 16; have := Nat.mul_le_mul_right (Bnd k + 2) h.1; omega)
  | 0, .dct [] [], h => by cases h
  | k + 1, .dct [] [], h => by
    have h : (!l) = true := h
    have hl : l = false := by simpa using h
    subst hl
    exact ⟨.dict [], rfl, by simp [PyData.showable, PyData.showableKv], (show TX1 16 (PyData.dict []).shown by simp only [PyData.shown, PyData.shownKv]; decide +kernel).le (Bnd16 (k + 1)), by simp [PyData.depth, PyData.depthKv], by simp [noL]⟩
  | k, .dct (_ :: _) _, h => by cases k <;> cases h
  | k, .dct [] (_ :: _), h => by cases k <;> cases h
  | k, .fz _, h => by cases k <;> cases h
  | k, .ref _, h => by cases k <;> cases h
  | k, .opq _, h => by cases k <;> cases h
  | k, .adr _, h => by cases k <;> cases h
theorem repr_ok {l : Bool} {k : Nat} {d : D} (h : Sm l k d = true) (hk : k ≤ 6) : ∃ t, reprD d = some t ∧ PyData.strOk t = true := by
  obtain ⟨e, s⟩ := sm_shows l k d h
  refine ⟨e.shown, ?_, s.tx.1⟩
  have hb : Bnd k ≤ sizeLine := by
    have : ∀ k ≤ 6, Bnd k ≤ sizeLine := by decide +kernel
    exact this k hk
  unfold reprD
  rw [s.py]
  refine if_pos ⟨s.sh, Nat.le_trans s.tx.2 hb, by have := s.dp; omega, fun z => ?_⟩
  have := s.dl
  cases l with
  | true => rw [if_pos rfl] at this; rw [this] at z; cases z
  | false => exact this
theorem sm_pl (l : Bool) : ∀ (k : Nat) (d : D), Sm l k d = true → Pl d = true
  | k, .non, _ => rfl
  | k, .bl b, _ => rfl
  | k, .int i, h => rfl
  | k, .str x, h => by
    have h : decide (x ∈ TXT) = true := by cases k <;> exact h
    have hx := txt_ok x (of_decide_eq_true h)
    simp [Pl, hx.1, hx.2.1]
  | 0, .tup ds, h => by cases h
  | k + 1, .tup ds, h => by
    rw [Sm, Bool.and_eq_true, decide_eq_true_eq, List.all_eq_true] at h
    have : ∀ ds : List D, (∀ d ∈ ds, Pl d = true) → Pl.Pls ds = true := fun ds => by
      induction ds with
      | nil => exact fun _ => rfl
      | cons d ds ih => exact fun h => by rw [Pl.Pls, h d (by simp), ih fun x hx => h x (List.mem_cons_of_mem _ hx)]; rfl
    rw [Pl]
    exact this ds fun d hd => sm_pl l k d (h.2 d hd)
  | k, .lst ds, h => rfl
  | k, .dct _ _, h => rfl
  | k, .fz _, h => rfl
  | k, .ref _, h => by cases k <;> cases h
  | k, .opq _, h => by cases k <;> cases h
  | k, .adr _, h => by cases k <;> cases h
end K01
end

section
set_option Elab.async false
set_option linter.all false
set_option maxRecDepth 100000
set_option maxHeartbeats 1000000
namespace K01
open PySem PySem.Spec PyProof.Rows L2 Fx
variable [Nam]
/-! ## the judges agree; what is raised -/
section
variable (A : Ads) (S : Sto)
theorem acons {a : Ed} {b : Ad} {Γ : En} {S0 S1 S2 : Sto} {d : D} {ds : List D} (h : a Γ S0 = .ok d S1) (k : b Γ S1 = .ok ds S2) : aCons a b Γ S0 = .ok (d :: ds) S2 := by simp [aCons, h, k]
theorem mlst_ev {a : Ad} {Γ : En} {S0 S1 : Sto} {ds : List D} (h : a Γ S0 = .ok ds S1) (hl : ds.length ≤ 64 := by simp) : mLst true a Γ S0 = .ok (.lst ds) S1 := by
  have : ds.length ≤ big := by unfold big; omega
  unfold mLst
  rw [h, Res.bind_ok, if_pos this]
  rfl
theorem mtup_ev {a : Ad} {Γ : En} {S0 S1 : Sto} {ds : List D} (h : a Γ S0 = .ok ds S1) (hl : ds.length ≤ 64 := by simp) : mTup a Γ S0 = .ok (.tup ds) S1 := by
  have : ds.length ≤ big := by unfold big; omega
  unfold mTup
  rw [h, Res.bind_ok, if_pos this]
theorem repr_ev {e : Ed} {Γ : En} {S0 S1 : Sto} {d : D} {t : Str} (h : e Γ S0 = .ok d S1) (hr : reprD d = some t) : mBlt fRepr (aCons e aNil) Γ S0 = .ok (.str t) S1 := by
  simp [mBlt, aCons, h, fRepr, hr]
theorem value_ev {d : D} (h : Pl d = true) : m__law_value_right A [d] S = .ok (.bl true) S := by
  obtain ⟨t, ht, hok⟩ := repr_ok (l := true) (k := 1) (d := .lst [.bl (nameD d), .bl (stampD d), .bl (bodyD d), .bl (deedD d), .bl (holdD d)]) (by simp [Sm]) (by decide)
  unfold m__law_value_right
  have v0 : ∀ {a b c : Option D}, mVar 0 [some d, a, b, c] S = .ok d S := rfl
  refine run_ev (seq_ev (asg_ev (mlst_ev (acons (call1 v0 (name_ev A S h)) (acons (call1 v0 (stamp_ev A S h)) (acons (call1 v0 (body_ev A S h)) (acons (call1 v0 (deed_ev A S h)) (acons (call1 v0 (hold_ev A S h)) rfl))))))) ?_)
  refine seq_ev (asg_ev (mlst_ev (acons (call1 v0 (lname_ev A S h)) (acons (call1 v0 (lstamp_ev A S h)) (acons (call1 v0 (lbody_ev A S h)) (acons (call1 v0 (ldeed_ev A S h)) rfl)))))) ?_
  refine seq_ev (S1 := S) (asg_ev (d := .bl (holdD d)) ?_) (ret_ev ?_)
  · cases d with
    | str x => exact and_ev (is_str h v0) fun _ => in_l S HOLD v0 _ rfl
    | _ => exact and_ev (y := false) (is_str h v0) fun z => by simp [isStr] at z
  · have e2 : mOp (dAdd true) (mVar 2) (mLst true (aCons (mVar 3) aNil)) (List.set (List.set (List.set (enter 4 [d]) 1 (some (.lst [.bl (nameD d), .bl (stampD d), .bl (bodyD d), .bl (deedD d), .bl (holdD d)]))) 2 (some (.lst [.bl (nameD d), .bl (stampD d), .bl (bodyD d), .bl (deedD d)]))) 3 (some (.bl (holdD d)))) S = .ok (.lst [.bl (nameD d), .bl (stampD d), .bl (bodyD d), .bl (deedD d), .bl (holdD d)]) S :=
      op_ev rfl (mlst_ev (acons rfl rfl)) rfl
    refine (eqS_ev (repr_ev rfl ht) (repr_ev e2 ht) hok hok).trans ?_
    simp
theorem drop_ex {a : Ed} {Γ : En} {S1 : Sto} {c : Addr} {fs : List (Str × D)} (h : a Γ S = .exc c fs S1) : sDrop a Γ S = .ex c fs Γ S1 := by unfold sDrop; rw [h]; rfl
theorem call1_ex {e : Ed} {Γ : En} {f : Fn} {d : D} {c : Addr} {fs : List (Str × D)} {S1 S2 : Sto} (h : e Γ S = .ok d S1) (hf : f [d] S1 = .exc c fs S2) : mCall 1 f (aCons e aNil) Γ S = .exc c fs S2 := by simp [mCall, aCons, h, arg, hf]
theorem call2_ex {e e1 : Ed} {Γ : En} {f : Fn} {d d1 : D} {c : Addr} {fs : List (Str × D)} {S1 S2 S3 : Sto} (h : e Γ S = .ok d S1) (h1 : e1 Γ S1 = .ok d1 S2) (hf : f [d, d1] S2 = .exc c fs S3) : mCall 2 f (aCons e (aCons e1 aNil)) Γ S = .exc c fs S3 := by simp [mCall, aCons, h, h1, arg, hf]
theorem raise_ev {C : Addr} {f : Str} {e : Ed} {Γ : En} {d : D} {S1 : Sto} (h : e Γ S = .ok d S1) : sRaise C f e Γ S = .ex C [(f, d)] Γ S1 := by unfold sRaise; rw [h]; rfl
theorem check_no {d : D} (h : Pl d = true) (hd : deedD d = false) : m_check_deed A [d] S = .exc A.C_NoDeed [("told", d)] S := by
  unfold m_check_deed
  exact run_ex (if_t ((tnot_ev (t_ev (call1 rfl (deed_ev A S h)))).trans (by rw [hd]; rfl)) (raise_ev S rfl))
theorem check_yes {d : D} (h : Pl d = true) (hd : deedD d = true) : m_check_deed A [d] S = .ok .non S := by
  unfold m_check_deed
  exact run_nx (if_f ((tnot_ev (t_ev (call1 rfl (deed_ev A S h)))).trans (by rw [hd]; rfl)) rfl)
theorem hand_no {d : D} (h : Pl d = true) (hd : numD d 0 3 = false) : m_check_hand A [d] S = .exc A.C_NoHand [("told", d)] S := by
  unfold m_check_hand
  exact run_ex (if_t ((tnot_ev (t_ev (call3 rfl rfl rfl (num_ev A S h 0 3)))).trans (by rw [hd]; rfl)) (raise_ev S rfl))
theorem hand_yes {d : D} (h : Pl d = true) (hd : numD d 0 3 = true) : m_check_hand A [d] S = .ok .non S := by
  unfold m_check_hand
  exact run_nx (if_f ((tnot_ev (t_ev (call3 rfl rfl rfl (num_ev A S h 0 3)))).trans (by rw [hd]; rfl)) rfl)
theorem mark_no {d : D} (h : Pl d = true) (hd : deedD d = false) : m_is_mark A [d] S = .exc A.C_NoDeed [("told", d)] S := by
  unfold m_is_mark
  exact run_ex (seq_ex (drop_ex S (call1_ex S rfl (check_no A S h hd))))
theorem time_no {d x : D} (h : Pl d = true) (hd : deedD d = false) : m_time_seen A [d, x] S = .exc A.C_NoDeed [("told", d)] S := by
  unfold m_time_seen
  exact run_ex (seq_ex (drop_ex S (call1_ex S rfl (check_no A S h hd))))
theorem time_bad {d x : D} (h : Pl d = true) (hd : deedD d = true) (hx : Pl x = true) (hn : numD x 0 3 = false) : m_time_seen A [d, x] S = .exc A.C_NoHand [("told", x)] S := by
  unfold m_time_seen
  exact run_ex (seq_ev (drop_ev (call1 rfl (check_yes A S h hd))) (seq_ex (drop_ex S (call1_ex S rfl (hand_no A S hx hn)))))
theorem try_ex {b : Sd} {l : List Hd} {Γ Γ' : En} {c : Addr} {fs : List (Str × D)} {S' : Sto} {R : SR} (h : b Γ S = .ex c fs Γ' S') (k : runH c fs Γ' S' l = R) : sTry b l Γ S = R := by unfold sTry; rw [h]; exact k
theorem runH_no {mt : Addr → Option Bool} {i : Option Nat} {su : List (Str × D) → Sd} {r : List Hd} {c : Addr} {fs : List (Str × D)} {Γ : En} {R : SR} (h : mt c = some false) (k : runH c fs Γ S r = R) : runH c fs Γ S ((mt, i, su) :: r) = R := by
  unfold runH; rw [h]; exact k
theorem runH_yes {mt : Addr → Option Bool} {i : Option Nat} {su : List (Str × D) → Sd} {r : List Hd} {c : Addr} {fs : List (Str × D)} {Γ : En} {d : D} {S' : Sto} (h : mt c = some true) (ho : okSlot i Γ = true) (k : su fs (setNo i Γ) S = .rt d S') : runH c fs Γ S ((mt, i, su) :: r) = .rt d S' := by
  unfold runH; rw [h]; dsimp only; rw [if_pos ho, k]; rfl
theorem runE_rt {Γ0 : En} {b : Sd} {d : D} {S' : Sto} (h : b Γ0 S = .rt d S') : runE Γ0 b S = .ok d S' := by unfold runE; rw [h]
/-- what _law_caught makes of it -/
theorem caught_deed {m : Ed} {Γ : En} {d : D} {t : Str} (h : m Γ S = .exc A.C_NoDeed [("told", d)] S) (ht : reprD d = some t) : callL 2 (B__law_caught A) m Γ S = .ok (.lst [.str "deed", .str t]) S := by
  have p : (if A.C_NoDeed = A.C_NoDeed then some false else if A.C_NoDeed = A.C_NoHand then some false else none) = some false := if_pos rfl
  unfold callL B__law_caught
  refine runE_rt S (seq_rt (try_ex S (drop_ex S h) (runH_no S p (runH_no S p (runH_no S p (runH_no S p (runH_yes S (if_pos rfl) rfl (ret_ev (mlst_ev (acons rfl (acons (repr_ev (d := d) ?_ ht) rfl)))))))))))
  simp [mLook]
theorem caught_hand {m : Ed} {Γ : En} {d : D} {t : Str} (ne : A.C_NoHand ≠ A.C_NoDeed) (h : m Γ S = .exc A.C_NoHand [("told", d)] S) (ht : reprD d = some t) : callL 2 (B__law_caught A) m Γ S = .ok (.lst [.str "hand", .str t]) S := by
  have p : (if A.C_NoHand = A.C_NoDeed then some false else if A.C_NoHand = A.C_NoHand then some false else none) = some false := (if_neg ne).trans (if_pos rfl)
  have p1 : mt_NoDeed A A.C_NoHand = some false := (if_neg ne).trans (if_pos rfl)
  unfold callL B__law_caught
  refine runE_rt S (seq_rt (try_ex S (drop_ex S h) (runH_no S p (runH_no S p (runH_no S p (runH_no S p (runH_no S p1 (runH_no S p (runH_no S p (runH_no S p (runH_yes S (if_pos rfl) rfl (ret_ev (mlst_ev (acons rfl (acons (repr_ev (d := d) ?_ ht) rfl)))))))))))))))
  simp [mLook]
theorem eqL2 (n : Bool) {a b : Str} (ha : PyData.strOk a = true) (hb : PyData.strOk b = true) : dEqA n (.lst [.str a, .str b]) (.lst [.str a, .str b]) S = .ok (.bl (nb n true)) S := by
  simp [dEqA, eqE, seqK, dEqG, toPyS, toPy, toPys, SeqAt.shaped, PyData.eqv, PyData.canLay0, PyData.canLayAll0, PyData.depth, PyData.depthAll, nb, ha, hb, PyData.eqvAll, PyData.eqv]
end
end K01
end

section
set_option Elab.async false
set_option linter.all false
set_option maxRecDepth 100000
set_option maxHeartbeats 1000000
namespace K01
open PySem PySem.Spec PyProof.Rows L2 Fx
variable [Nam]
/-! ## the pool -/
abbrev pl (a b : Int) : O := .lst [.int a, .int b]
/-- the pool stands at n -/
def Po (S : Sto) (n : Nat) : Prop := ∃ a b, S[n]? = some (pl a b)
/-- only the pool at n turned -/
def Ch (n : Nat) (S S' : Sto) : Prop := ∃ a b, S' = S.set n (pl a b)
theorem Po.lt {S : Sto} {n : Nat} (h : Po S n) : n < S.length := by
  obtain ⟨a, b, e⟩ := h
  exact (List.getElem?_eq_some_iff.mp e).1
theorem Ch.po {S S' : Sto} {n : Nat} (h : Ch n S S') (p : Po S n) : Po S' n := by
  obtain ⟨a, b, rfl⟩ := h
  exact ⟨a, b, List.getElem?_set_self p.lt⟩
theorem Ch.refl {S : Sto} {n : Nat} (p : Po S n) : Ch n S S := by
  obtain ⟨a, b, e⟩ := p
  obtain ⟨h, e⟩ := List.getElem?_eq_some_iff.mp e
  exact ⟨a, b, by rw [← e, List.set_getElem_self]⟩
theorem Ch.trans {S S1 S2 : Sto} {n : Nat} (h : Ch n S S1) (k : Ch n S1 S2) : Ch n S S2 := by
  obtain ⟨a, b, rfl⟩ := h
  obtain ⟨c, d, rfl⟩ := k
  exact ⟨c, d, List.set_set ..⟩
theorem Ch.get {S S' : Sto} {n m : Nat} (h : Ch n S S') (ne : m ≠ n) : S'[m]? = S[m]? := by
  obtain ⟨a, b, rfl⟩ := h
  exact List.getElem?_set_ne (Ne.symm ne)
theorem Ch.len {S S' : Sto} {n : Nat} (h : Ch n S S') : S'.length = S.length := by
  obtain ⟨a, b, rfl⟩ := h
  simp
theorem ix_ref {S : Sto} {n : Nat} {xs : List D} {j : Nat} {d : D} (h : S[n]? = some (.lst xs)) (e : xs[j]? = some d) : dIxA (.ref n) (.int (j : Nat)) S = .ok d S := by
  have : dSq S (.ref n) = some xs := by simp [dSq, dL, h]
  simp [dIxA, dDc, h, dIx, this, atI_nat e]
theorem ix_lst {S : Sto} {xs : List D} {j : Nat} {d : D} (e : xs[j]? = some d) : dIxA (.lst xs) (.int (j : Nat)) S = .ok d S := by
  simp [dIxA, dDc, dIx, dSq, dL, atI_nat e]
theorem take_ev (A : Ads) {S : Sto} {n : Nat} (p : Po S n) {k : Int} (h0 : 0 < k) (h1 : k < 1073741824) :
    ∃ v S', m__law_take A [.ref n, .int k] S = .ok (.int v) S' ∧ Ch n S S' ∧ 0 ≤ v ∧ v < k := by
  have hn := p.lt
  obtain ⟨a, b, g⟩ := p
  have e0 : dIxA (.ref n) (.int 0) S = .ok (.int a) S := ix_ref (j := 0) g rfl
  have e1 : dIxA (.ref n) (.int 1) S = .ok (.int b) S := ix_ref (j := 1) g rfl
  by_cases hp : 0 < a
  · refine ⟨a % k, S.set n (pl (a / k) b), ?_, ⟨_, _, rfl⟩, Int.emod_nonneg _ (by omega), Int.emod_lt_of_pos _ h0⟩
    have c1 : CDiv a k := ⟨h0, h1⟩
    simp [m__law_take, runF, enter, sSeq, sIf, sAsg, sSub, sRet, mT, mOp, mVar, gN, mBlt, aCons, fInt, e0, dII, dIC, hp, h0, c1, ixN, g, Res.toS, Res.bind]
  · have q1 : CMul b 39373 := .inr (by decide)
    have g2 : (S.set n (pl a ((b * 39373 + 7) % 2147483647)))[n]? = some (pl a ((b * 39373 + 7) % 2147483647)) := List.getElem?_set_self hn
    have e2 : dIxA (.ref n) (.int 1) (S.set n (pl a ((b * 39373 + 7) % 2147483647))) = .ok (.int ((b * 39373 + 7) % 2147483647)) _ := ix_ref (j := 1) g2 rfl
    have r0 : 0 ≤ (b * 39373 + 7) % 2147483647 := Int.emod_nonneg _ (by decide)
    have r1 : (b * 39373 + 7) % 2147483647 < 2147483647 := Int.emod_lt_of_pos _ (by decide)
    have q2 : CMul ((b * 39373 + 7) % 2147483647) ((b * 39373 + 7) % 2147483647) := .inl (by omega)
    have q3 : ∀ x : Int, CDiv x 32 := fun x => by unfold CDiv; omega
    generalize hb : (b * 39373 + 7) % 2147483647 = b' at *
    refine ⟨(b' * b') % 2147483629 / 32 % k, S.set n (pl a b'), ?_, ⟨_, _, rfl⟩, Int.emod_nonneg _ (by omega), Int.emod_lt_of_pos _ h0⟩
    simp [m__law_take, runF, enter, sSeq, sIf, sAsg, sSub, sRet, sPass, mT, mOp, mVar, gN, mBlt, aCons, fInt, e0, e1, dII, dIC, dAdd, hp, h0, q1, hb, ixN, g, Res.toS, Res.bind, e2, q2, q3]
theorem len_lst {S S1 : Sto} {xs : List D} {e : Ed} {Γ : En} (h : e Γ S = .ok (.lst xs) S1) : mBlt fLenA (aCons e aNil) Γ S = .ok (.int xs.length) S1 := by
  simp [mBlt, aCons, h, fLenA, dDc, fLen, dSq, dL]
theorem one_ev (A : Ads) {S : Sto} {n : Nat} (p : Po S n) {xs : List D} (h0 : xs ≠ []) (h1 : xs.length < 1000000) :
    ∃ d S', m__law_one A [.ref n, .lst xs] S = .ok d S' ∧ Ch n S S' ∧ d ∈ xs := by
  have hl : 0 < xs.length := List.length_pos_iff.mpr h0
  obtain ⟨v, S', e, c, v0, v1⟩ := take_ev A p (k := (xs.length : Int)) (by omega) (by omega)
  have hv : v.toNat < xs.length := by omega
  refine ⟨xs[v.toNat], S', ?_, c, List.getElem_mem hv⟩
  unfold m__law_one
  have ev : v = (v.toNat : Int) := by omega
  refine run_ev (ret_ev (op_ev (d := .lst xs) (d1 := .int v) rfl (call2 rfl (len_lst rfl) e) ?_))
  have := ix_lst (S := S') (j := v.toNat) (List.getElem?_eq_getElem hv)
  rwa [← ev] at this
/-- .. asked for in a text -/
theorem one_call (A : Ads) {S S1 : Sto} {n : Nat} {e0 e1 : Ed} {Γ : En} {xs : List D} (p : Po S1 n) (h0 : e0 Γ S = .ok (.ref n) S) (h1 : e1 Γ S = .ok (.lst xs) S1) (hx : xs ≠ []) (hl : xs.length < 1000000) :
    ∃ d S', mCall 2 (m__law_one A) (aCons e0 (aCons e1 aNil)) Γ S = .ok d S' ∧ Ch n S1 S' ∧ d ∈ xs := by
  obtain ⟨d, S', e, c, hm⟩ := one_ev A p hx hl
  exact ⟨d, S', call2 h0 h1 e, c, hm⟩
theorem take_call (A : Ads) {S S1 : Sto} {n : Nat} {e0 e1 : Ed} {Γ : En} {k : Int} (p : Po S1 n) (h0 : e0 Γ S = .ok (.ref n) S) (h1 : e1 Γ S = .ok (.int k) S1) (hk : 0 < k) (hl : k < 1073741824) :
    ∃ v S', mCall 2 (m__law_take A) (aCons e0 (aCons e1 aNil)) Γ S = .ok (.int v) S' ∧ Ch n S1 S' ∧ 0 ≤ v ∧ v < k := by
  obtain ⟨v, S', e, c, h⟩ := take_ev A p hk hl
  exact ⟨v, S', call2 h0 h1 e, c, h⟩
/-! ## base values -/
def Ba : Nat → D → Bool
  | _, .non => true
  | _, .bl _ => true
  | _, .int i => decide (-2 ≤ i) && decide (i ≤ 1000)
  | _, .str x => decide (x ∈ TXT)
  | k + 1, .tup ds => decide (ds.length ≤ 6) && ds.all (Ba k)
  | _, _ => false
theorem ba_sm (l : Bool) : ∀ {k : Nat} {d : D}, Ba k d = true → Sm l k d = true
  | 0, d, h => by cases d <;> first | exact h | cases h
  | k + 1, .tup ds, h => by
    rw [Ba, Bool.and_eq_true, List.all_eq_true] at h
    rw [Sm, Bool.and_eq_true, List.all_eq_true]
    exact ⟨h.1, fun d hd => ba_sm l (h.2 d hd)⟩
  | k + 1, .non, h => h
  | k + 1, .bl _, h => h
  | k + 1, .int _, h => h
  | k + 1, .str _, h => h
  | k + 1, .lst _, h => by cases h
  | k + 1, .fz _, h => by cases h
  | k + 1, .ref _, h => by cases h
  | k + 1, .opq _, h => by cases h
  | k + 1, .adr _, h => by cases h
  | k + 1, .dct _ _, h => by cases h
theorem ba_up : ∀ {k : Nat} {d : D}, Ba k d = true → Ba (k + 1) d = true
  | 0, d, h => by cases d <;> first | exact h | cases h
  | k + 1, .tup ds, h => by
    rw [Ba, Bool.and_eq_true, List.all_eq_true] at h
    rw [Ba, Bool.and_eq_true, List.all_eq_true]
    exact ⟨h.1, fun d hd => ba_up (h.2 d hd)⟩
  | k + 1, .non, h => h
  | k + 1, .bl _, h => h
  | k + 1, .int _, h => h
  | k + 1, .str _, h => h
  | k + 1, .lst _, h => by cases h
  | k + 1, .fz _, h => by cases h
  | k + 1, .ref _, h => by cases h
  | k + 1, .opq _, h => by cases h
  | k + 1, .adr _, h => by cases h
  | k + 1, .dct _ _, h => by cases h
theorem ba_le {k j : Nat} {d : D} (h : Ba k d = true) (hj : k ≤ j) : Ba j d = true := by
  induction j with
  | zero =>
    have hk : k = 0 := by omega
    rw [← hk]
    exact h
  | succ j ih =>
    by_cases hk : k = j + 1
    · rw [← hk]; exact h
    · exact ba_up (ih (by omega))
theorem ba_py : ∀ {k : Nat} {d : D}, Ba k d = true → ∃ e, toPy d = some e ∧ e.canLay0 = true ∧ e.depth ≤ k ∧ ∀ S, toPyS S d = some e
  | k, .non, _ => ⟨_, rfl, by simp [PyData.canLay0], by simp [PyData.depth], fun _ => rfl⟩
  | k, .bl _, _ => ⟨_, rfl, by simp [PyData.canLay0], by simp [PyData.depth], fun _ => rfl⟩
  | k, .int _, _ => ⟨_, rfl, by simp [PyData.canLay0], by simp [PyData.depth], fun _ => rfl⟩
  | k, .str x, h => by
    have h : decide (x ∈ TXT) = true := by cases k <;> exact h
    exact ⟨_, rfl, by simp [PyData.canLay0, (txt_ok x (of_decide_eq_true h)).1], by simp [PyData.depth], fun _ => rfl⟩
  | k + 1, .tup ds, h => by
    rw [Ba, Bool.and_eq_true, List.all_eq_true] at h
    have all : ∀ ds : List D, (∀ d ∈ ds, Ba k d = true) → ∃ es, toPys ds = some es ∧ PyData.canLayAll0 es = true ∧ PyData.depthAll es ≤ k := by
      intro ds
      induction ds with
      | nil => exact fun _ => ⟨[], rfl, by simp [PyData.canLayAll0], by simp [PyData.depthAll]⟩
      | cons d ds ih =>
        intro hd
        obtain ⟨e, e1, e2, e3, _⟩ := ba_py (hd d (by simp))
        obtain ⟨es, f1, f2, f3⟩ := ih fun x hx => hd x (List.mem_cons_of_mem _ hx)
        exact ⟨e :: es, by simp [toPys, e1, f1], by simp [PyData.canLayAll0, e2, f2], by simp only [PyData.depthAll]; omega⟩
    obtain ⟨es, f1, f2, f3⟩ := all ds h.2
    exact ⟨.tuple es, by simp [toPy, f1], by simpa [PyData.canLay0] using f2, by simp only [PyData.depth]; omega, fun _ => by simp [toPyS, toPy, f1]⟩
  | 0, .tup ds, h => by cases h
  | k, .lst _, h => by cases k <;> cases h
  | k, .fz _, h => by cases k <;> cases h
  | k, .ref _, h => by cases k <;> cases h
  | k, .opq _, h => by cases k <;> cases h
  | k, .adr _, h => by cases k <;> cases h
  | k, .dct _ _, h => by cases k <;> cases h
/-- == of base values has an answer -/
theorem eq_some {k j : Nat} {x y : D} (hx : Ba k x = true) (hy : Ba j y = true) (hk : k ≤ 20) (hj : j ≤ 20) (n : Bool) (S : Sto) : ∃ b, dEqA n x y S = .ok (.bl b) S := by
  unfold dEqA
  cases eqE S x y with
  | some b => exact ⟨_, rfl⟩
  | none =>
    obtain ⟨e, _, e2, e3, e4⟩ := ba_py hx
    obtain ⟨f, _, f2, f3, f4⟩ := ba_py hy
    refine ⟨if n then !PyData.eqv e f else PyData.eqv e f, ?_⟩
    · unfold dEqG
      rw [e4 S, f4 S]
      dsimp only
      rw [if_pos ⟨by simp [SeqAt.shaped, e2]; omega, by simp [SeqAt.shaped, f2]; omega⟩]
end K01
end

section
set_option Elab.async false
set_option linter.all false
set_option maxRecDepth 100000
set_option maxHeartbeats 1000000
namespace K01
open PySem PySem.Spec PyProof.Rows L2 Fx
variable [Nam]
/-! ## good deeds; contents, holders -/
structure GB (w : Str) (r : List D) : Prop where
  ok : bodyW w r = true
  wt : w ∈ TXT
  ba : ∀ d ∈ r, Ba 1 d = true
  ln : r.length ≤ 4
def GD (c : Int) (d : D) : Prop := ∃ (t h s0 s1 s2 s3 : Int) (w : Str) (r : List D), d = .tup [.tup [.int t, .int h], .tup [.int s0, .int s1, .int s2, .int s3], .tup (.str w :: r)] ∧ (1 ≤ t ∧ t ≤ c) ∧ (0 ≤ h ∧ h ≤ 3) ∧ (0 ≤ s0 ∧ s0 < t) ∧ (0 ≤ s1 ∧ s1 < t) ∧ (0 ≤ s2 ∧ s2 < t) ∧ (0 ≤ s3 ∧ s3 < t) ∧ GB w r
theorem GD.up {c c' : Int} {d : D} (h : GD c d) (k : c ≤ c') : GD c' d := by
  obtain ⟨t, h, s0, s1, s2, s3, w, r, e, h1, rest⟩ := h
  exact ⟨t, h, s0, s1, s2, s3, w, r, e, ⟨h1.1, by omega⟩, rest⟩
def dSt : D → D
  | .tup (s :: _) => s
  | _ => .non
/-- None, the root, or a stamp -/
def OkP (x : D) : Prop := (isNon x || placeD x) = true ∧ Ba 1 x = true
def Plc (x : D) : Prop := placeD x = true ∧ Ba 1 x = true
theorem stamp_mk {t h : Int} (h1 : 1 ≤ t) (h2 : t ≤ 999) (h3 : 0 ≤ h) (h4 : h ≤ 3) : stampD (.tup [.int t, .int h]) = true := by
  simp [stampD, pairD, numD, h1, h2, h3, h4]
theorem GD.st {c : Int} {d : D} (h : GD c d) (hc : c ≤ 999) : stampD (dSt d) = true ∧ Ba 1 (dSt d) = true := by
  obtain ⟨t, h, s0, s1, s2, s3, w, r, rfl, h1, h2, _⟩ := h
  exact ⟨stamp_mk h1.1 (by omega) h2.1 h2.2, by simp [dSt, Ba]; omega⟩
theorem root_ok : Plc (.tup [.int 0, .int 0]) := ⟨by simp [placeD, stampD, rootD, pairD, numD], by simp [Ba]⟩
theorem st_plc {x : D} (h : stampD x = true ∧ Ba 1 x = true) : Plc x := ⟨by rw [placeD, h.1]; rfl, h.2⟩
theorem Plc.okP {x : D} (h : Plc x) : OkP x := ⟨by rw [h.1, Bool.or_true], h.2⟩
theorem lc_some {f : Bool} {vs : List Nat} {src : Id'} {j : Nat} {cnd : Bd} {elt : Ed} {Γ : En} {S S0 : Sto} {s : Sr} {xs : List D} (e : src Γ S0 = .ok s S) (hs : Its s S xs) (g : D → D)
    (h : ∀ x ∈ xs, ∃ b, cnd ((wipeE Γ vs).set j (some x)) S = .ok b S ∧ (b = true → elt ((wipeE Γ vs).set j (some x)) S = .ok (g x) S)) (hb : xs.length < big) :
    ∃ p : D → Bool, mLc f vs src (gN j) cnd elt Γ S0 = mkL f ((xs.filter p).map g) S := by
  refine ⟨fun x => match cnd ((wipeE Γ vs).set j (some x)) S with | .ok b _ => b | _ => false, lc_ev e hs _ g (fun x hx => ?_) hb⟩
  obtain ⟨b, h1, h2⟩ := h x hx
  simp only [h1]
  exact ⟨trivial, h2⟩
theorem add_lst {a b : List D} {S : Sto} (h : a.length + b.length ≤ 10000) : dAdd true (.lst a) (.lst b) S = .ok (.lst (a ++ b)) S := by
  have : a.length + b.length ≤ big := by unfold big; omega
  simp [dAdd, dLs, this, mkL]
theorem addl_ev {e e1 : Ed} {Γ : En} {S S1 S2 : Sto} {a b : List D} (h : e Γ S = .ok (.lst a) S1) (h1 : e1 Γ S1 = .ok (.lst b) S2) (hl : a.length + b.length ≤ 10000) : mOp (dAdd true) e e1 Γ S = .ok (.lst (a ++ b)) S2 := op_ev h h1 (add_lst hl)
theorem cut_mem {xs : List D} {lo hi : Option Int} {d : D} (h : d ∈ Fx.cutD xs lo hi) : d ∈ xs := List.mem_of_mem_drop (List.mem_of_mem_take h)
theorem cut_len (xs : List D) (lo hi : Option Int) : (Fx.cutD xs lo hi).length ≤ xs.length := by
  unfold Fx.cutD
  rw [List.length_take, List.length_drop]
  omega
theorem slt_ev {e : Ed} {Γ : En} {S S1 : Sto} {ds : List D} {l u : Od} {lo hi : Option Int} (h : e Γ S = .ok (.tup ds) S1) (hl : l Γ S1 = .ok lo S1) (hu : u Γ S1 = .ok hi S1) : mSl true e l u Γ S = .ok (.tup (Fx.cutD ds lo hi)) S1 := by
  unfold mSl
  rw [h, Res.bind_ok, hl, Res.bind_ok, hu, Res.bind_ok]
  rfl
theorem sll_ev {e : Ed} {Γ : En} {S S1 : Sto} {ds : List D} {l u : Od} {lo hi : Option Int} (h : e Γ S = .ok (.lst ds) S1) (hl : l Γ S1 = .ok lo S1) (hu : u Γ S1 = .ok hi S1) : mSl true e l u Γ S = .ok (.lst (Fx.cutD ds lo hi)) S1 := by
  unfold mSl
  rw [h, Res.bind_ok, hl, Res.bind_ok, hu, Res.bind_ok]
  rfl
def strA : List Str → Ad
  | [] => aNil
  | x :: xs => aCons (mC (.str x)) (strA xs)
def intA : List Int → Ad
  | [] => aNil
  | x :: xs => aCons (mC (.int x)) (intA xs)
theorem strA_ev (Γ : En) (S : Sto) : ∀ l : List Str, strA l Γ S = .ok (l.map D.str) S
  | [] => rfl
  | x :: xs => acons rfl (strA_ev Γ S xs)
theorem intA_ev (Γ : En) (S : Sto) : ∀ l : List Int, intA l Γ S = .ok (l.map D.int) S
  | [] => rfl
  | x :: xs => acons rfl (intA_ev Γ S xs)
theorem strL_ev (l : List Str) {Γ : En} {S : Sto} (hl : l.length ≤ 64 := by simp) : mLst true (strA l) Γ S = .ok (.lst (l.map D.str)) S := mlst_ev (strA_ev Γ S l) (by rw [List.length_map]; exact hl)
theorem intL_ev (l : List Int) {Γ : En} {S : Sto} (hl : l.length ≤ 64 := by simp) : mLst true (intA l) Γ S = .ok (.lst (l.map D.int)) S := mlst_ev (intA_ev Γ S l) (by rw [List.length_map]; exact hl)
def KINDS : List Str := ["let", "use", "number", "block", "sum", "product"]
section
variable (A : Ads)
theorem names4 : ∀ x ∈ (["x", "x", "y", "abcd"] : List Str), nameD (.str x) = true ∧ x ∈ TXT := by decide +kernel
theorem nums5 : ∀ i ∈ ([0, 1, 2, 7, 99] : List Int), numD (.int i) 0 99 = true ∧ Ba 1 (.int i) = true := by decide +kernel
theorem st_ev {c : Int} {d : D} (h : GD c d) {e : Ed} {Γ : En} {S : Sto} (v : e Γ S = .ok d S) : mOp dIxA e (mC (.int 0)) Γ S = .ok (dSt d) S := by
  obtain ⟨t, h, s0, s1, s2, s3, w, r, rfl, _⟩ := h
  exact ixt_ev 0 v rfl
theorem GD.body {c : Int} {d : D} (h : GD c d) : ∃ (s0 s1 : D) (w : Str) (r : List D), d = .tup [s0, s1, .tup (.str w :: r)] ∧ GB w r := by
  obtain ⟨t, h, s0, s1, s2, s3, w, r, rfl, _, _, _, _, _, _, gb⟩ := h
  exact ⟨_, _, w, r, rfl, gb⟩
theorem GB.ba5 {w : Str} {r : List D} (h : GB w r) : Ba 2 (.tup (.str w :: r)) = true := by
  have h1 := h.ln
  simp only [Ba, Bool.and_eq_true, decide_eq_true_eq, List.all_eq_true, List.length_cons]
  refine ⟨by omega, fun d hd => ?_⟩
  rcases List.mem_cons.mp hd with rfl | hd
  · simp [Ba, h.wt]
  · exact h.ba d hd
theorem content_ev {S : Sto} {n : Nat} (p : Po S n) {s : Str} (hs : s ∈ KINDS) {c : Int} (hc : c ≤ 999) {ds : List D} (hd : ∀ d ∈ ds, GD c d) (hl : ds.length ≤ 100) :
    ∃ d S', m__law_content A [.ref n, .str s, .lst ds] S = .ok d S' ∧ Ch n S S' ∧ contD s d = true ∧ Ba 1 d = true := by
  have v0 : mVar 0 (enter 6 [.ref n, .str s, .lst ds]) S = .ok (.ref n) S := rfl
  have v1 : mVar 1 (enter 6 [.ref n, .str s, .lst ds]) S = .ok (.str s) S := rfl
  have v2 : mVar 2 (enter 6 [.ref n, .str s, .lst ds]) S = .ok (.lst ds) S := rfl
  have hst : PyData.strOk s = true := by
    have : ∀ s ∈ KINDS, PyData.strOk s = true := by decide +kernel
    exact this s hs
  unfold m__law_content
  have q : ∀ k : Str, PyData.strOk k = true → mT (mOp (dEqA false) (mVar 1) (mC (.str k))) (enter 6 [.ref n, .str s, .lst ds]) S = .ok (decide (s = k)) S := fun k hk => t_ev (eqS_ev v1 rfl hst hk)
  by_cases h1 : s = "let"
  · obtain ⟨d, S', e, ch, hm⟩ := one_call A p v0 (strL_ev ["x", "x", "y", "abcd"]) (by simp) (by simp)
    refine ⟨d, S', run_ev (seq_rt (if_t ((q "let" (by decide +kernel)).trans (by rw [decide_eq_true h1])) (ret_ev e))), ch, ?_⟩
    have hm : d ∈ (["x", "x", "y", "abcd"] : List Str).map D.str := hm
    obtain ⟨x, hx, rfl⟩ := List.mem_map.mp hm
    have := names4 x hx
    rw [contD, if_pos h1]
    exact ⟨this.1, by simp [Ba, this.2]⟩
  · by_cases h2 : s = "number"
    · obtain ⟨d, S', e, ch, hm⟩ := one_call A p v0 (intL_ev [0, 1, 2, 7, 99]) (by simp) (by simp)
      refine ⟨d, S', run_ev (ifn_ev ((q "let" (by decide +kernel)).trans (by rw [decide_eq_false h1])) (seq_rt (if_t ((q "number" (by decide +kernel)).trans (by rw [decide_eq_true h2])) (ret_ev e)))), ch, ?_⟩
      have hm : d ∈ ([0, 1, 2, 7, 99] : List Int).map D.int := hm
      obtain ⟨x, hx, rfl⟩ := List.mem_map.mp hm
      have := nums5 x hx
      have h3 : ¬ s = "use" := fun z => by rw [h2] at z; exact absurd z (by decide +kernel)
      rw [contD, if_neg h1, if_neg h3, if_pos h2]
      exact this
    · by_cases h3 : s = "use"
      · have it : iAny (mVar 2) (enter 6 [.ref n, .str s, .lst ds]) S = .ok (.seq (.lst ds)) S := any_lst v2
        have hb : ds.length < big := by unfold big; omega
        obtain ⟨pr, e1⟩ := lc_some (f := true) (vs := [5]) (j := 5) (cnd := mT (mOp (dEqA false) (mSl true (mOp dIxA (mVar 5) (mC (.int 2))) oNo (oSo (mC (.int 2)))) (mTup (aCons (mC (.str ("make" : Str))) (aCons (mC (.str ("let" : Str))) aNil))))) (elt := mOp dIxA (mVar 5) (mC (.int 0))) it (its_seq rfl) dSt (fun x hx => by
          obtain ⟨s0, s1, w, r, rfl, gb⟩ := (hd x hx).body
          have w5 : mVar 5 ((wipeE (enter 6 [.ref n, .str s, .lst ds]) [5]).set 5 (some (.tup [s0, s1, .tup (.str w :: r)]))) S = .ok (.tup [s0, s1, .tup (.str w :: r)]) S := rfl
          have sl := slt_ev (l := oNo) (u := oSo (mC (.int 2))) (lo := none) (hi := some 2) (ixt_ev 2 w5 rfl) rfl rfl
          have bx : Ba 2 (.tup (Fx.cutD (.str w :: r) none (some 2))) = true := by
            have hb := gb.ba5
            simp only [Ba, Bool.and_eq_true, decide_eq_true_eq, List.all_eq_true] at hb ⊢
            exact ⟨Nat.le_trans (cut_len _ _ _) hb.1, fun d hd => hb.2 d (cut_mem hd)⟩
          obtain ⟨b, eb⟩ := eq_some (j := 2) bx (y := .tup [.str "make", .str "let"]) (by decide +kernel) (by decide) (by decide) false S
          exact ⟨b, t_ev (op_ev sl (mtup_ev (acons rfl (acons rfl rfl))) eb), fun _ => ixt_ev 0 w5 rfl⟩) hb
        generalize hlt : (ds.filter pr).map dSt = lets at e1
        have ll : lets.length ≤ 100 := by rw [← hlt, List.length_map]; exact Nat.le_trans (List.length_filter_le _ _) hl
        have lm : ∀ x ∈ lets, OkP x := fun x hx => by
          rw [← hlt] at hx
          obtain ⟨d, hd2, rfl⟩ := List.mem_map.mp hx
          exact (st_plc ((hd d (List.mem_filter.mp hd2).1).st hc)).okP
        generalize hΓ : (enter 6 [.ref n, .str s, .lst ds]).set 3 (some (.lst lets)) = Γ
        have w2 : mVar 2 Γ S = .ok (.lst ds) S := by rw [← hΓ]; rfl
        have e2 := lc_all (f := true) (vs := [5]) (j := 5) (elt := mOp dIxA (mVar 5) (mC (.int 0))) (any_lst w2) (its_seq rfl) dSt (fun x hx => st_ev (hd x hx) (e := mVar 5) (Γ := (wipeE Γ [5]).set 5 (some x)) (S := S) (by rw [← hΓ]; rfl)) hb
        have e0 : mLst true (aCons (mC .non) (aCons (mTup (aCons (mC (.int 0)) (aCons (mC (.int 0)) aNil))) aNil)) Γ S = .ok (.lst [.non, .tup [.int 0, .int 0]]) S := rfl
        have e3 := addl_ev e0 (sll_ev (l := oNo) (u := oSo (mC (.int 1))) (lo := none) (hi := some 1) e2 rfl rfl) (by have := cut_len (ds.map dSt) none (some 1); simp at this ⊢; omega)
        generalize hod : [D.non, .tup [.int 0, .int 0]] ++ Fx.cutD (ds.map dSt) none (some 1) = odd at e3
        have ol : odd.length ≤ 102 := by rw [← hod]; have := cut_len (ds.map dSt) none (some 1); simp at this ⊢; omega
        have om : ∀ x ∈ odd, OkP x := fun x hx => by
          rw [← hod] at hx
          rcases List.mem_append.mp hx with hx | hx
          · simp at hx
            rcases hx with rfl | rfl
            · exact ⟨rfl, rfl⟩
            · exact root_ok.okP
          · obtain ⟨d, hd2, rfl⟩ := List.mem_map.mp (cut_mem hx)
            exact (st_plc ((hd d hd2).st hc)).okP
        have u0 : mVar 0 (Γ.set 4 (some (.lst odd))) S = .ok (.ref n) S := by rw [← hΓ]; rfl
        have u3 : mVar 3 (Γ.set 4 (some (.lst odd))) S = .ok (.lst lets) S := by rw [← hΓ]; rfl
        have u4 : mVar 4 (Γ.set 4 (some (.lst odd))) S = .ok (.lst odd) S := by rw [← hΓ]; rfl
        have no : odd ≠ [] := by rw [← hod]; simp
        obtain ⟨d, S', e, ch, hm⟩ := one_call A p u0 (addl_ev (addl_ev (addl_ev u3 u3 (by omega)) u3 (by simp; omega)) u4 (by simp; omega)) (by simp [no]) (by simp; omega)
        refine ⟨d, S', run_ev (ifn_ev ((q "let" (by decide +kernel)).trans (by rw [decide_eq_false h1])) (ifn_ev ((q "number" (by decide +kernel)).trans (by rw [decide_eq_false h2])) (seq_rt (if_t ((q "use" (by decide +kernel)).trans (by rw [decide_eq_true h3])) (seq_ev (asg_ev e1) ?_))))), ch, ?_⟩
        · rw [hΓ]
          exact seq_ev (asg_ev e3) (ret_ev e)
        · have ok : OkP d := by
            rcases List.mem_append.mp hm with hm | hm
            · rcases List.mem_append.mp hm with hm | hm
              · rcases List.mem_append.mp hm with hm | hm <;> exact lm d hm
              · exact lm d hm
            · exact om d hm
          rw [contD, if_neg h1, if_pos h3]
          exact ok
      · refine ⟨.non, S, run_ev (ifn_ev ((q "let" (by decide +kernel)).trans (by rw [decide_eq_false h1])) (ifn_ev ((q "number" (by decide +kernel)).trans (by rw [decide_eq_false h2])) (ifn_ev ((q "use" (by decide +kernel)).trans (by rw [decide_eq_false h3])) (ret_ev rfl)))), Ch.refl p, ?_, rfl⟩
        rw [contD, if_neg h1, if_neg h3, if_neg h2]
        have : ∀ s ∈ KINDS, s ≠ "let" → s ≠ "use" → s ≠ "number" → memS s NONE3 = true := by decide +kernel
        rw [this s hs h1 h3 h2]
        rfl
end
end K01
end

section
set_option Elab.async false
set_option linter.all false
set_option maxRecDepth 100000
set_option maxHeartbeats 1000000
namespace K01
open PySem PySem.Spec PyProof.Rows L2 Fx
variable [Nam]
/-! ## holders, bodies -/
section
variable (A : Ads)
theorem make_kind {w : Str} {r : List D} (h : GB w r) (hw : w = "make") : ∃ (k : Str) (u n v : D), r = [.str k, u, n, v] ∧ placeD u = true ∧ k ∈ TXT := by
  have ok := h.ok
  rw [bodyW, if_pos hw] at ok
  unfold makeD at ok
  split at ok
  · rename_i k u n v
    rw [Bool.and_eq_true, Bool.and_eq_true] at ok
    cases k with
    | str s => exact ⟨s, u, n, v, rfl, ok.1.1, by have := h.ba (.str s) (by simp); simpa [Ba] using this⟩
    | _ => simp [kcD] at ok
  · cases ok
theorem txt_str {x : Str} (h : x ∈ TXT) : PyData.strOk x = true := (txt_ok x h).1
theorem holders_ev {S : Sto} {c : Int} (hc : c ≤ 999) {ds : List D} (hd : ∀ d ∈ ds, GD c d) (hl : ds.length ≤ 100) :
    ∃ hs, m__law_holders A [.lst ds] S = .ok (.lst hs) S ∧ hs ≠ [] ∧ hs.length ≤ 101 ∧ ∀ x ∈ hs, Plc x := by
  have hb : ds.length < big := by unfold big; omega
  have k1 : mLst true (strA HOLD) (enter 3 [.lst ds]) S = .ok (.lst (HOLD.map D.str)) S := strL_ev HOLD
  generalize hΓ : (enter 3 [.lst ds]).set 1 (some (.lst (HOLD.map D.str))) = Γ
  have w0 : mVar 0 Γ S = .ok (.lst ds) S := by rw [← hΓ]; rfl
  obtain ⟨pr, e1⟩ := lc_some (f := true) (vs := [2]) (j := 2) (cnd := mAnd (mT (mOp (dEqA false) (mOp dIxA (mOp dIxA (mVar 2) (mC (.int 2))) (mC (.int 0))) (mC (.str ("make" : Str))))) (mT (mOp (dInA false) (mOp dIxA (mOp dIxA (mVar 2) (mC (.int 2))) (mC (.int 1))) (mVar 1)))) (elt := mOp dIxA (mVar 2) (mC (.int 0))) (any_lst w0) (its_seq rfl) dSt (fun x hx => by
    obtain ⟨s0, s1, w, r, rfl, gb⟩ := (hd x hx).body
    generalize hΓ2 : (wipeE Γ [2]).set 2 (some (.tup [s0, s1, .tup (.str w :: r)])) = Γ2
    have w2 : mVar 2 Γ2 S = .ok (.tup [s0, s1, .tup (.str w :: r)]) S := by rw [← hΓ2, ← hΓ]; rfl
    have w1 : mVar 1 Γ2 S = .ok (.lst (HOLD.map D.str)) S := by rw [← hΓ2, ← hΓ]; rfl
    have b0 : mOp dIxA (mVar 2) (mC (.int 2)) Γ2 S = .ok (.tup (.str w :: r)) S := ixt_ev 2 w2 rfl
    have q := t_ev (eqS_ev (n := false) (ixt_ev 0 b0 rfl) (e1 := mC (.str ("make" : Str))) rfl (txt_str gb.wt))
    by_cases hw : w = "make"
    · obtain ⟨k, u, n, v, rfl, _⟩ := make_kind gb hw
      exact ⟨_, tand_ev (x := true) (q.trans (by rw [nb_f, decide_eq_true hw])) (fun _ => t_ev (op_ev (ixt_ev 1 b0 rfl) w1 (in_lst S k HOLD))), fun _ => ixt_ev 0 w2 rfl⟩
    · exact ⟨_, tand_ev (x := false) (y := false) (q.trans (by rw [nb_f, decide_eq_false hw])) (fun z => nomatch z), fun _ => ixt_ev 0 w2 rfl⟩) hb
  have e0 : mLst true (aCons (mTup (aCons (mC (.int 0)) (aCons (mC (.int 0)) aNil))) aNil) Γ S = .ok (.lst [.tup [.int 0, .int 0]]) S := rfl
  refine ⟨[.tup [.int 0, .int 0]] ++ (ds.filter pr).map dSt, ?_, by simp, ?_, fun x hx => ?_⟩
  · unfold m__law_holders
    refine run_ev (seq_ev (asg_ev k1) (ret_ev ?_))
    rw [hΓ]
    exact addl_ev e0 e1 (by have := List.length_filter_le pr ds; simp; omega)
  · have := List.length_filter_le pr ds
    simp
    omega
  · rcases List.mem_append.mp hx with hx | hx
    · simp at hx
      subst hx
      exact root_ok
    · obtain ⟨d, hd2, rfl⟩ := List.mem_map.mp hx
      exact st_plc ((hd d (List.mem_filter.mp hd2).1).st hc)
theorem num6 : ∀ i ∈ ([0, 1, 2, 2, 5, 999] : List Int), numD (.int i) 0 999 = true ∧ Ba 1 (.int i) = true := by decide +kernel
theorem num5 : ∀ i ∈ ([0, 1, 2, 5, 999] : List Int), numD (.int i) 0 999 = true ∧ Ba 1 (.int i) = true := by decide +kernel
theorem kinds8 : ∀ x ∈ (["let", "let", "use", "use", "number", "block", "sum", "product"] : List Str), x ∈ KINDS ∧ x ∈ TXT := by decide +kernel
theorem made_ev {S : Sto} {n : Nat} (p : Po S n) {c : Int} (hc : c ≤ 999) {ds : List D} (hd : ∀ d ∈ ds, GD c d) (hl : ds.length ≤ 100) :
    ∃ w r S', m__law_made_body A [.ref n, .lst ds] S = .ok (.tup (.str w :: r)) S' ∧ Ch n S S' ∧ GB w r := by
  have v0 : mVar 0 (enter 4 [.ref n, .lst ds]) S = .ok (.ref n) S := rfl
  obtain ⟨k, S1, e1, c1, m1⟩ := one_call A p v0 (strL_ev ["let", "let", "use", "use", "number", "block", "sum", "product"]) (by simp) (by simp)
  have m1 : k ∈ (["let", "let", "use", "use", "number", "block", "sum", "product"] : List Str).map D.str := m1
  obtain ⟨ks, hk, rfl⟩ := List.mem_map.mp m1
  have hk := kinds8 ks hk
  have p1 := c1.po p
  generalize hΓ : (enter 4 [.ref n, .lst ds]).set 2 (some (.str ks)) = Γ
  have w0 : ∀ S, mVar 0 Γ S = .ok (.ref n) S := fun S => by rw [← hΓ]; rfl
  have w1 : ∀ S, mVar 1 Γ S = .ok (.lst ds) S := fun S => by rw [← hΓ]; rfl
  obtain ⟨hs, eh, nh, lh, gh⟩ := holders_ev A (S := S1) hc hd hl
  have er : mLst true (aCons (mTup (aCons (mC (.int 0)) (aCons (mC (.int 0)) aNil))) aNil) Γ S1 = .ok (.lst [.tup [.int 0, .int 0]]) S1 := rfl
  obtain ⟨u, S2, e2, c2, m2⟩ := one_call A p1 (w0 S1) (addl_ev (call1 (w1 S1) eh) er (by simp; omega)) (by simp) (by simp; omega)
  have hu : Plc u := by
    rcases List.mem_append.mp m2 with m | m
    · exact gh u m
    · simp at m
      subst m
      exact root_ok
  have p2 := c2.po p1
  generalize hΔ : Γ.set 3 (some u) = Δ
  have x0 : ∀ S, mVar 0 Δ S = .ok (.ref n) S := fun S => by rw [← hΔ, ← hΓ]; rfl
  have x1 : ∀ S, mVar 1 Δ S = .ok (.lst ds) S := fun S => by rw [← hΔ, ← hΓ]; rfl
  have x2 : ∀ S, mVar 2 Δ S = .ok (.str ks) S := fun S => by rw [← hΔ, ← hΓ]; rfl
  have x3 : ∀ S, mVar 3 Δ S = .ok u S := fun S => by rw [← hΔ, ← hΓ]; rfl
  obtain ⟨i, S3, e3, c3, m3⟩ := one_call A p2 (x0 S2) (intL_ev [0, 1, 2, 2, 5, 999]) (by simp) (by simp)
  have m3 : i ∈ ([0, 1, 2, 2, 5, 999] : List Int).map D.int := m3
  obtain ⟨iz, hi, rfl⟩ := List.mem_map.mp m3
  have hi := num6 iz hi
  have p3 := c3.po p2
  obtain ⟨v, S4, e4, c4, gv, bv⟩ := content_ev A p3 hk.1 hc hd hl
  refine ⟨"make", [.str ks, u, .int iz, v], S4, ?_, ((c1.trans c2).trans c3).trans c4, ⟨?_, by decide +kernel, fun d hd => ?_, by simp⟩⟩
  · unfold m__law_made_body
    refine run_ev (seq_ev (asg_ev e1) ?_)
    rw [hΓ]
    refine seq_ev (asg_ev e2) ?_
    rw [hΔ]
    exact ret_ev (mtup_ev (acons rfl (acons (x2 S2) (acons (x3 S2) (acons e3 (acons (call3 (x0 S3) (x2 S3) (x1 S3) e4) rfl))))))
  · rw [bodyW, if_pos rfl]
    simp [makeD, kcD, hu.1, hi.1, gv]
  · simp at hd
    rcases hd with rfl | rfl | rfl | rfl
    · simp [Ba, hk.2]
    · exact hu.2
    · exact hi.2
    · exact bv
end
end K01
end

section
set_option Elab.async false
set_option linter.all false
set_option maxRecDepth 100000
set_option maxHeartbeats 1000000
namespace K01
open PySem PySem.Spec PyProof.Rows L2 Fx
variable [Nam]
/-! ## a drawn body -/
section
variable (A : Ads)
def W12 : List Str := ["make", "make", "make", "make", "move", "move", "drop", "wish", "point", "set", "undo", "redo"]
theorem W12_ok : ∀ w ∈ W12, w ∈ TXT ∧ (w ≠ "make" → memS w W2 = false → w ≠ "drop" → w ≠ "move" → memS w W3 = true) ∧ (memS w W2 = true → w ≠ "make" ∧ w ≠ "move" ∧ w ≠ "drop" ∧ memS w W3 = false) ∧ (memS w W3 = true → w ≠ "make" ∧ w ≠ "move" ∧ w ≠ "drop" ∧ kindOf w ∈ KINDS) := by decide +kernel
theorem GB.ne {w : Str} {r : List D} (h : GB w r) : ∃ x r', r = x :: r' := by
  cases r with
  | nil => have := h.ok; rw [bodyW_nil] at this; cases this
  | cons x r' => exact ⟨x, r', rfl⟩
theorem get_ev {w : Str} (hw : PyData.strOk w = true) {Γ : En} {S : Sto} {e : Ed} (h : e Γ S = .ok (.str w) S) : mDget2 (mDct [Sum.inr ("wish" : Str), Sum.inr ("point" : Str), Sum.inr ("set" : Str)] (aCons (mC (.str ("let" : Str))) (aCons (mC (.str ("use" : Str))) (aCons (mC (.str ("number" : Str))) aNil)))) e (mC .non) Γ S = .ok (if memS w W3 = true then .str (kindOf w) else .non) S := by
  have e1 : mDct [Sum.inr ("wish" : Str), Sum.inr ("point" : Str), Sum.inr ("set" : Str)] (aCons (mC (.str ("let" : Str))) (aCons (mC (.str ("use" : Str))) (aCons (mC (.str ("number" : Str))) aNil))) Γ S = .ok (.dct [Sum.inr ("wish" : Str), Sum.inr ("point" : Str), Sum.inr ("set" : Str)] [.str "let", .str "use", .str "number"]) S := by
    unfold mDct
    have : aCons (mC (.str ("let" : Str))) (aCons (mC (.str ("use" : Str))) (aCons (mC (.str ("number" : Str))) aNil)) Γ S = .ok [.str "let", .str "use", .str "number"] S := rfl
    rw [this, Res.bind_ok, if_pos ⟨rfl, by decide +kernel, by decide⟩]
  unfold mDget2
  rw [e1, Res.bind_ok, if_pos (show isDct _ = true from rfl), h, Res.bind_ok, mC_ev, Res.bind_ok]
  unfold dDg
  simp only [keyOf]
  by_cases h3 : memS w W3 = true
  · rw [if_pos h3]
    have hw' : w = "wish" ∨ w = "point" ∨ w = "set" := by
      simp only [memS, List.any_cons, List.any_nil, Bool.or_false, Bool.or_eq_true, beq_iff_eq] at h3
      rcases h3 with h | h | h
      · exact .inl h.symm
      · exact .inr (.inl h.symm)
      · exact .inr (.inr h.symm)
    rcases hw' with rfl | rfl | rfl <;> rfl
  · rw [if_neg h3]
    have a1 : ¬ (Sum.inr ("wish" : Str) : Key) = Sum.inr w := fun z => by cases z; exact h3 (by decide +kernel)
    have a2 : ¬ (Sum.inr ("point" : Str) : Key) = Sum.inr w := fun z => by cases z; exact h3 (by decide +kernel)
    have a3 : ¬ (Sum.inr ("set" : Str) : Key) = Sum.inr w := fun z => by cases z; exact h3 (by decide +kernel)
    simp only [lookK, if_neg a1, if_neg a2, if_neg a3]
    rfl
theorem gt_ev {e : Ed} {Γ : En} {S S1 : Sto} {v : Int} (h : e Γ S = .ok (.int v) S1) : mT (mOp dGt e (mC (.int 0))) Γ S = .ok (decide (v > 0)) S1 := t_ev (op_ev h rfl rfl)
theorem lawbody_ev {S : Sto} {n : Nat} (p : Po S n) {c : Int} (hc : c ≤ 999) {ds : List D} (hd : ∀ d ∈ ds, GD c d) (hl : ds.length ≤ 100) :
    ∃ w r S', m__law_body A [.ref n, .lst ds] S = .ok (.tup (.str w :: r)) S' ∧ Ch n S S' ∧ GB w r := by
  have hb : ds.length < big := by unfold big; omega
  unfold m__law_body
  -- makes
  obtain ⟨p1, e1⟩ := lc_some (f := true) (vs := [10]) (j := 10) (cnd := mT (mOp (dEqA false) (mOp dIxA (mOp dIxA (mVar 10) (mC (.int 2))) (mC (.int 0))) (mC (.str ("make" : Str))))) (elt := mVar 10) (Γ := enter 11 [.ref n, .lst ds]) (S0 := S) (S := S) (any_lst (xs := ds) (a := mVar 1) rfl) (its_seq rfl) id (fun x hx => by
    obtain ⟨s0, s1, w, r, rfl, gb⟩ := (hd x hx).body
    have w10 : mVar 10 ((wipeE (enter 11 [.ref n, .lst ds]) [10]).set 10 (some (.tup [s0, s1, .tup (.str w :: r)]))) S = .ok (.tup [s0, s1, .tup (.str w :: r)]) S := rfl
    exact ⟨_, t_ev (eqS_ev (ixt_ev 0 (ixt_ev 2 w10 rfl) rfl) rfl (txt_str gb.wt)), fun _ => w10⟩) hb
  rw [List.map_id] at e1
  generalize hmk : ds.filter p1 = mk at e1
  have hm : ∀ d ∈ mk, d ∈ ds := fun d h => by rw [← hmk] at h; exact (List.mem_filter.mp h).1
  have lm : mk.length ≤ 100 := by rw [← hmk]; exact Nat.le_trans (List.length_filter_le _ _) hl
  have hbm : mk.length < big := by unfold big; omega
  -- the word
  generalize hΓ : ((enter 11 [.ref n, .lst ds]).set 2 (some (.lst mk))).set 3 (some (.lst (W12.map D.str))) = Γ
  obtain ⟨wd, S1, e2, c1, m1⟩ := one_call A p (e0 := mVar 0) (e1 := mVar 3) (Γ := Γ) (xs := W12.map D.str) (by rw [← hΓ]; rfl) (by rw [← hΓ]; rfl) (by simp [W12]) (by simp [W12])
  obtain ⟨w, hw, rfl⟩ := List.mem_map.mp m1
  have W := W12_ok w hw
  have ow := txt_str W.1
  have pp := c1.po p
  generalize hΔ : Γ.set 4 (some (.str w)) = Δ
  have x0 : ∀ S, mVar 0 Δ S = .ok (.ref n) S := fun S => by rw [← hΔ, ← hΓ]; rfl
  have x1 : ∀ S, mVar 1 Δ S = .ok (.lst ds) S := fun S => by rw [← hΔ, ← hΓ]; rfl
  have x2 : ∀ S, mVar 2 Δ S = .ok (.lst mk) S := fun S => by rw [← hΔ, ← hΓ]; rfl
  have x4 : ∀ S, mVar 4 Δ S = .ok (.str w) S := fun S => by rw [← hΔ, ← hΓ]; rfl
  have go : ∀ {d : D} {S' : Sto} {rest : Sd}, rest Δ S1 = .rt d S' → sSeq (sAsg (gN 2) (mLc true [10] (iAny (mVar 1)) (gN 10) (mT (mOp (dEqA false) (mOp dIxA (mOp dIxA (mVar 10) (mC (.int 2))) (mC (.int 0))) (mC (.str ("make" : Str))))) (mVar 10))) (sSeq (sAsg (gN 3) (mLst true (strA W12))) (sSeq (sAsg (gN 4) (mCall 2 (m__law_one A) (aCons (mVar 0) (aCons (mVar 3) aNil)))) rest)) (enter 11 [.ref n, .lst ds]) S = .rt d S' := fun {d S' rest} h => by
    refine seq_ev (asg_ev e1) (seq_ev (asg_ev (strL_ev W12 (by decide))) ?_)
    rw [hΓ]
    refine seq_ev (asg_ev e2) ?_
    rw [hΔ]
    exact h
  have tm := t_ev (eqS_ev (n := false) (x4 S1) (e1 := mC (.str ("make" : Str))) rfl ow)
  have te : mT (mOp (dEqA false) (mVar 2) (mLst true aNil)) Δ S1 = .ok mk.isEmpty S1 := t_ev (op_ev (x2 S1) (d1 := .lst []) rfl (eqNil S1 false mk))
  by_cases hmake : (decide (w = "make") || mk.isEmpty) = true
  · obtain ⟨w', r, S2, e3, c2, gb⟩ := made_ev A pp hc hd hl
    refine ⟨w', r, S2, run_ev (go (seq_rt (if_t ((tor_ev (y := mk.isEmpty) tm fun _ => te).trans (by rw [nb_f, hmake])) (ret_ev (call2 (x0 S1) (x1 S1) e3))))), c1.trans c2, gb⟩
  · have hmake : (decide (w = "make") || mk.isEmpty) = false := by simpa using hmake
    have nmk : w ≠ "make" := fun z => by rw [decide_eq_true z] at hmake; cases hmake
    have nm : mk ≠ [] := fun z => by rw [z] at hmake; simp at hmake
    have nd : ds ≠ [] := fun z => by rw [z] at hmk; exact nm hmk.symm
    have t1 := (tor_ev (y := mk.isEmpty) tm fun _ => te).trans (by rw [nb_f, hmake])
    have sts : ∀ {Θ : En} {S : Sto}, mVar 1 Θ S = .ok (.lst ds) S → (∀ x, mVar 10 ((wipeE Θ [10]).set 10 (some x)) S = .ok x S) → mLc true [10] (iAny (mVar 1)) (gN 10) bYes (mOp dIxA (mVar 10) (mC (.int 0))) Θ S = .ok (.lst (ds.map dSt)) S := fun {Θ S} h h2 =>
      lc_all (any_lst h) (its_seq rfl) dSt (fun x hx => st_ev (hd x hx) (h2 x)) hb
    have stm : ∀ {x : D}, x ∈ ds.map dSt → stampD x = true ∧ Ba 1 x = true := fun {x} hx => by
      obtain ⟨d, hd2, rfl⟩ := List.mem_map.mp hx
      exact (hd d hd2).st hc
    have tw2 : mT (mOp (dInA false) (mVar 4) (mLst true (strA W2))) Δ S1 = .ok (memS w W2) S1 := t_ev (in_l S1 W2 (x4 S1) _ (strA_ev Δ S1 W2))
    by_cases h2 : memS w W2 = true
    · obtain ⟨s, S2, e3, c2, m2⟩ := one_call A pp (x0 S1) (sts (x1 S1) (fun x => by rw [← hΔ, ← hΓ]; rfl)) (by simpa using nd) (by simp; omega)
      have hs := stm m2
      have w2 := W.2.2.1 h2
      refine ⟨w, [s], S2, run_ev (go (ifn_ev t1 (seq_rt (if_t (tw2.trans (by rw [h2])) (ret_ev (mtup_ev (acons (x4 S1) (acons e3 rfl)))))))), c1.trans c2, ⟨?_, W.1, fun d hd => ?_, by simp⟩⟩
      · rw [bodyW, if_neg w2.1, if_neg w2.2.1, if_neg w2.2.2.1, w2.2.2.2, h2]
        simp [markD, hs.1]
      · simp at hd
        rw [hd]
        exact hs.2
    · have h2 : memS w W2 = false := by simpa using h2
      have go2 : ∀ {d : D} {S' : Sto} {rest : Sd}, rest Δ S1 = .rt d S' → sSeq (sIf (mOr (mT (mOp (dEqA false) (mVar 4) (mC (.str ("make" : Str))))) (mT (mOp (dEqA false) (mVar 2) (mLst true aNil)))) (sRet (mCall 2 (m__law_made_body A) (aCons (mVar 0) (aCons (mVar 1) aNil)))) sPass) (sSeq (sIf (mT (mOp (dInA false) (mVar 4) (mLst true (strA W2)))) (sRet (mTup (aCons (mVar 4) (aCons (mCall 2 (m__law_one A) (aCons (mVar 0) (aCons (mLc true [10] (iAny (mVar 1)) (gN 10) bYes (mOp dIxA (mVar 10) (mC (.int 0)))) aNil))) aNil)))) sPass) rest) Δ S1 = .rt d S' := fun {d S' rest} h => ifn_ev t1 (ifn_ev (tw2.trans (by rw [h2])) h)
      -- kind
      generalize hkd : (if memS w W3 = true then D.str (kindOf w) else D.non) = kd
      have ek := (get_ev ow (x4 S1)).trans (by rw [hkd])
      have bk : Ba 1 kd = true := by
        rw [← hkd]
        split
        · rename_i h
          have : ∀ k ∈ KINDS, k ∈ TXT := by decide +kernel
          simp [Ba, this _ (W.2.2.2 h).2.2.2]
        · rfl
      generalize hΔ5 : Δ.set 5 (some kd) = Δ5
      -- things
      have y2 : mVar 2 Δ5 S1 = .ok (.lst mk) S1 := by rw [← hΔ5, ← hΔ, ← hΓ]; rfl
      obtain ⟨p6, e6⟩ := lc_some (f := true) (vs := [10]) (j := 10) (cnd := mOr (mT (mOp (dIs false) (mVar 5) (mC .non))) (mT (mOp (dEqA false) (mOp dIxA (mOp dIxA (mVar 10) (mC (.int 2))) (mC (.int 1))) (mVar 5)))) (elt := mOp dIxA (mVar 10) (mC (.int 0))) (any_lst y2) (its_seq rfl) dSt (fun x hx => by
        have gd := hd x (hm x hx)
        obtain ⟨s0, s1, w', r, rfl, gb⟩ := gd.body
        obtain ⟨k, r', rfl⟩ := gb.ne
        generalize hΘ : (wipeE Δ5 [10]).set 10 (some (.tup [s0, s1, .tup (.str w' :: k :: r')])) = Θ
        have z10 : mVar 10 Θ S1 = .ok (.tup [s0, s1, .tup (.str w' :: k :: r')]) S1 := by rw [← hΘ, ← hΔ5, ← hΔ, ← hΓ]; rfl
        have z5 : mVar 5 Θ S1 = .ok kd S1 := by rw [← hΘ, ← hΔ5, ← hΔ, ← hΓ]; rfl
        obtain ⟨b, eb⟩ := eq_some (gb.ba k (by simp)) bk (by decide) (by decide) false S1
        exact ⟨_, tor_ev (y := b) (t_ev (isn_ev S1 z5)) (fun _ => t_ev (op_ev (ixt_ev 1 (ixt_ev 2 z10 rfl) rfl) z5 eb)), fun _ => ixt_ev 0 z10 rfl⟩) hbm
      generalize hth : (mk.filter p6).map dSt = th at e6
      have lth : th.length ≤ 100 := by rw [← hth, List.length_map]; exact Nat.le_trans (List.length_filter_le _ _) lm
      have mth : ∀ x ∈ th, Plc x := fun x hx => by
        rw [← hth] at hx
        obtain ⟨d, hd2, rfl⟩ := List.mem_map.mp hx
        exact st_plc ((hd d (hm d (List.mem_filter.mp hd2).1)).st hc)
      generalize hΔ6 : Δ5.set 6 (some (.lst th)) = Δ6
      -- odd
      have e7 : mOp (dAdd true) (mLst true (aCons (mTup (aCons (mC (.int 0)) (aCons (mC (.int 0)) aNil))) aNil)) (mLc true [10] (iAny (mVar 1)) (gN 10) bYes (mOp dIxA (mVar 10) (mC (.int 0)))) Δ6 S1 = .ok (.lst ([.tup [.int 0, .int 0]] ++ ds.map dSt)) S1 :=
        addl_ev (show mLst true (aCons (mTup (aCons (mC (.int 0)) (aCons (mC (.int 0)) aNil))) aNil) Δ6 S1 = .ok (.lst [.tup [.int 0, .int 0]]) S1 from rfl) (sts (by rw [← hΔ6, ← hΔ5, ← hΔ, ← hΓ]; rfl) (fun x => by rw [← hΔ6, ← hΔ5, ← hΔ, ← hΓ]; rfl)) (by simp; omega)
      generalize hod : [D.tup [.int 0, .int 0]] ++ ds.map dSt = od at e7
      have lod : od.length ≤ 101 := by rw [← hod]; simp; omega
      have nod : od ≠ [] := by rw [← hod]; simp
      have mod : ∀ x ∈ od, Plc x := fun x hx => by
        rw [← hod] at hx
        rcases List.mem_append.mp hx with hx | hx
        · simp at hx
          subst hx
          exact root_ok
        · exact st_plc (stm hx)
      generalize hΔ7 : Δ6.set 7 (some (.lst od)) = Δ7
      have v0 : ∀ S, mVar 0 Δ7 S = .ok (.ref n) S := fun S => by rw [← hΔ7, ← hΔ6, ← hΔ5, ← hΔ, ← hΓ]; rfl
      have v6 : ∀ S, mVar 6 Δ7 S = .ok (.lst th) S := fun S => by rw [← hΔ7, ← hΔ6, ← hΔ5, ← hΔ, ← hΓ]; rfl
      have v7 : ∀ S, mVar 7 Δ7 S = .ok (.lst od) S := fun S => by rw [← hΔ7, ← hΔ6, ← hΔ5, ← hΔ, ← hΓ]; rfl
      -- thing
      have pick : ∃ xs S2, mIf (mAnd (mT (mOp (dEqA true) (mVar 6) (mLst true aNil))) (mT (mOp dGt (mCall 2 (m__law_take A) (aCons (mVar 0) (aCons (mC (.int 9)) aNil))) (mC (.int 0))))) (mVar 6) (mVar 7) Δ7 S1 = .ok (.lst xs) S2 ∧ Ch n S1 S2 ∧ xs ≠ [] ∧ xs.length ≤ 101 ∧ ∀ x ∈ xs, Plc x := by
        have q1 : mT (mOp (dEqA true) (mVar 6) (mLst true aNil)) Δ7 S1 = .ok (!th.isEmpty) S1 := t_ev (op_ev (v6 S1) (d1 := .lst []) rfl (eqNil S1 true th))
        by_cases he : th = []
        · refine ⟨od, S1, ?_, Ch.refl pp, nod, lod, mod⟩
          have t2 := tand_ev (S1 := S1) (x := false) (y := false) (t := mT (mOp dGt (mCall 2 (m__law_take A) (aCons (mVar 0) (aCons (mC (.int 9)) aNil))) (mC (.int 0)))) (q1.trans (by rw [he]; rfl)) (fun z => nomatch z)
          unfold mIf
          rw [t2]
          exact v7 S1
        · obtain ⟨v, S2, ev, c2, _⟩ := take_call A (k := 9) pp (v0 S1) (e1 := mC (.int 9)) rfl (by decide) (by decide)
          have hq : (!th.isEmpty) = true := by cases th <;> simp_all
          have t2 := (show mAnd (mT (mOp (dEqA true) (mVar 6) (mLst true aNil))) (mT (mOp dGt (mCall 2 (m__law_take A) (aCons (mVar 0) (aCons (mC (.int 9)) aNil))) (mC (.int 0)))) Δ7 S1 = .ok (decide (v > 0)) S2 by
            unfold mAnd
            rw [q1, hq]
            exact gt_ev ev)
          by_cases hv : v > 0
          · refine ⟨th, S2, ?_, c2, he, by omega, mth⟩
            unfold mIf
            rw [t2, decide_eq_true hv]
            exact v6 S2
          · refine ⟨od, S2, ?_, c2, nod, lod, mod⟩
            unfold mIf
            rw [t2, decide_eq_false hv]
            exact v7 S2
      obtain ⟨xs, S2, e8, c2, nx, lx, mx⟩ := pick
      obtain ⟨t, S3, e9, c3, m3⟩ := one_call A (c2.po pp) (v0 S1) e8 nx (by omega)
      have ht := mx t m3
      have p3 := c3.po (c2.po pp)
      have cc := (c1.trans c2).trans c3
      generalize hΔ8 : Δ7.set 8 (some t) = Δ8
      have u0 : ∀ S, mVar 0 Δ8 S = .ok (.ref n) S := fun S => by rw [← hΔ8, ← hΔ7, ← hΔ6, ← hΔ5, ← hΔ, ← hΓ]; rfl
      have u1 : ∀ S, mVar 1 Δ8 S = .ok (.lst ds) S := fun S => by rw [← hΔ8, ← hΔ7, ← hΔ6, ← hΔ5, ← hΔ, ← hΓ]; rfl
      have u4 : ∀ S, mVar 4 Δ8 S = .ok (.str w) S := fun S => by rw [← hΔ8, ← hΔ7, ← hΔ6, ← hΔ5, ← hΔ, ← hΓ]; rfl
      have u5 : ∀ S, mVar 5 Δ8 S = .ok kd S := fun S => by rw [← hΔ8, ← hΔ7, ← hΔ6, ← hΔ5, ← hΔ, ← hΓ]; rfl
      have u7 : ∀ S, mVar 7 Δ8 S = .ok (.lst od) S := fun S => by rw [← hΔ8, ← hΔ7, ← hΔ6, ← hΔ5, ← hΔ, ← hΓ]; rfl
      have u8 : ∀ S, mVar 8 Δ8 S = .ok t S := fun S => by rw [← hΔ8, ← hΔ7, ← hΔ6, ← hΔ5, ← hΔ, ← hΓ]; rfl
      have q : ∀ k : Str, PyData.strOk k = true → mT (mOp (dEqA false) (mVar 4) (mC (.str k))) Δ8 S3 = .ok (decide (w = k)) S3 := fun k hk => t_ev (eqS_ev (u4 S3) rfl ow hk)
      by_cases hdp : w = "drop"
      · refine ⟨w, [t], S3, run_ev (go (go2 (seq_ev (asg_ev ek) ?_))), cc, ⟨?_, W.1, fun d hd => ?_, by simp⟩⟩
        · rw [hΔ5]
          refine seq_ev (asg_ev e6) ?_
          rw [hΔ6]
          refine seq_ev (asg_ev e7) ?_
          rw [hΔ7]
          refine seq_ev (asg_ev e9) ?_
          rw [hΔ8]
          exact seq_rt (if_t ((q "drop" (by decide +kernel)).trans (by rw [decide_eq_true hdp])) (ret_ev (mtup_ev (acons (u4 S3) (acons (u8 S3) rfl)))))
        · have a1 : ¬ w = "move" := fun z => by rw [hdp] at z; exact absurd z (by decide +kernel)
          rw [bodyW, if_neg nmk, if_neg a1, if_pos hdp]
          exact ht.1
        · simp at hd
          rw [hd]
          exact ht.2
      · have td := (q "drop" (by decide +kernel)).trans (by rw [decide_eq_false hdp])
        by_cases hmv : w = "move"
        · have pick2 : ∃ xs S4, mIf (mT (mOp dGt (mCall 2 (m__law_take A) (aCons (mVar 0) (aCons (mC (.int 9)) aNil))) (mC (.int 0)))) (mCall 1 (m__law_holders A) (aCons (mVar 1) aNil)) (mVar 7) Δ8 S3 = .ok (.lst xs) S4 ∧ Ch n S3 S4 ∧ xs ≠ [] ∧ xs.length ≤ 101 ∧ ∀ x ∈ xs, Plc x := by
            obtain ⟨v, S4, ev, c4, _⟩ := take_call A (k := 9) p3 (u0 S3) (e1 := mC (.int 9)) rfl (by decide) (by decide)
            have t2 := gt_ev ev
            by_cases hv : v > 0
            · obtain ⟨hs, eh, nh, lh, gh⟩ := holders_ev A (S := S4) hc hd hl
              refine ⟨hs, S4, ?_, c4, nh, lh, gh⟩
              unfold mIf
              rw [t2, decide_eq_true hv]
              exact call1 (u1 S4) eh
            · refine ⟨od, S4, ?_, c4, nod, lod, mod⟩
              unfold mIf
              rw [t2, decide_eq_false hv]
              exact u7 S4
          obtain ⟨ys, S4, e10, c4, ny, ly, my⟩ := pick2
          obtain ⟨u, S5, e11, c5, m5⟩ := one_call A (c4.po p3) (u0 S3) e10 ny (by omega)
          have hu := my u m5
          have p5 := c5.po (c4.po p3)
          generalize hΔ9 : Δ8.set 9 (some u) = Δ9
          have r0 : ∀ S, mVar 0 Δ9 S = .ok (.ref n) S := fun S => by rw [← hΔ9, ← hΔ8, ← hΔ7, ← hΔ6, ← hΔ5, ← hΔ, ← hΓ]; rfl
          have r4 : ∀ S, mVar 4 Δ9 S = .ok (.str w) S := fun S => by rw [← hΔ9, ← hΔ8, ← hΔ7, ← hΔ6, ← hΔ5, ← hΔ, ← hΓ]; rfl
          have r8 : ∀ S, mVar 8 Δ9 S = .ok t S := fun S => by rw [← hΔ9, ← hΔ8, ← hΔ7, ← hΔ6, ← hΔ5, ← hΔ, ← hΓ]; rfl
          have r9 : ∀ S, mVar 9 Δ9 S = .ok u S := fun S => by rw [← hΔ9, ← hΔ8, ← hΔ7, ← hΔ6, ← hΔ5, ← hΔ, ← hΓ]; rfl
          obtain ⟨i, S6, e12, c6, m6⟩ := one_call A p5 (r0 S5) (intL_ev [0, 1, 2, 5, 999]) (by simp) (by simp)
          have m6 : i ∈ ([0, 1, 2, 5, 999] : List Int).map D.int := m6
          obtain ⟨iz, hi, rfl⟩ := List.mem_map.mp m6
          have hi := num5 iz hi
          refine ⟨w, [t, u, .int iz], S6, run_ev (go (go2 (seq_ev (asg_ev ek) ?_))), ((cc.trans c4).trans c5).trans c6, ⟨?_, W.1, fun d hd => ?_, by simp⟩⟩
          · rw [hΔ5]
            refine seq_ev (asg_ev e6) ?_
            rw [hΔ6]
            refine seq_ev (asg_ev e7) ?_
            rw [hΔ7]
            refine seq_ev (asg_ev e9) ?_
            rw [hΔ8]
            refine ifn_ev td (seq_rt (if_t ((q "move" (by decide +kernel)).trans (by rw [decide_eq_true hmv])) (seq_ev (asg_ev e11) ?_)))
            rw [hΔ9]
            exact ret_ev (mtup_ev (acons (r4 S5) (acons (r8 S5) (acons (r9 S5) (acons e12 rfl)))))
          · rw [bodyW, if_neg nmk, if_pos hmv]
            simp [moveD, ht.1, hu.1, hi.1]
          · simp at hd
            rcases hd with rfl | rfl | rfl
            · exact ht.2
            · exact hu.2
            · exact hi.2
        · have h3 := W.2.1 nmk h2 hdp hmv
          have hk3 := (W.2.2.2 h3).2.2.2
          rw [if_pos h3] at hkd
          obtain ⟨v, S4, e10, c4, gv, bv⟩ := content_ev A p3 hk3 hc hd hl
          refine ⟨w, [t, v], S4, run_ev (go (go2 (seq_ev (asg_ev ek) ?_))), cc.trans c4, ⟨?_, W.1, fun d hd => ?_, by simp⟩⟩
          · rw [hΔ5]
            refine seq_ev (asg_ev e6) ?_
            rw [hΔ6]
            refine seq_ev (asg_ev e7) ?_
            rw [hΔ7]
            refine seq_ev (asg_ev e9) ?_
            rw [hΔ8]
            exact ifn_ev td (ifn_ev ((q "move" (by decide +kernel)).trans (by rw [decide_eq_false hmv])) (ret_ev (mtup_ev (acons (u4 S3) (acons (u8 S3) (acons (call3 (u0 S3) ((u5 S3).trans (by rw [← hkd])) (u1 S3) e10) rfl))))))
          · rw [bodyW, if_neg nmk, if_neg hmv, if_neg hdp, if_pos h3]
            simp [setsD, ht.1, gv]
          · simp at hd
            rcases hd with rfl | rfl
            · exact ht.2
            · exact bv
end
end K01
end

section
set_option Elab.async false
set_option linter.all false
set_option maxRecDepth 100000
set_option maxHeartbeats 1000000
namespace K01
open PySem PySem.Spec PyProof.Rows L2 Fx
variable [Nam]
/-! ## the drawn world -/
def row4 (x : Int × Int × Int × Int) : List D := [.int x.1, .int x.2.1, .int x.2.2.1, .int x.2.2.2]
def Row (c : Int) (d : D) : Prop := ∃ l : List Int, d = .lst (l.map D.int) ∧ l.length = 4 ∧ ∀ y ∈ l, 0 ≤ y ∧ y ≤ c
structure WO (S : Sto) (n a b : Nat) (c : Int) (ds rows : List D) : Prop where
  po : Po S n
  ga : S[a]? = some (.lst ds)
  gb : S[b]? = some (.lst rows)
  an : a ≠ n
  bn : b ≠ n
  ab : a ≠ b
  gd : ∀ d ∈ ds, GD c d
  rl : rows.length = 4
  rw : ∀ d ∈ rows, Row c d
abbrev wv (a b : Nat) (m : Int) : D := .lst [.ref a, .ref b, .int m]
theorem WO.ch {S S' : Sto} {n a b : Nat} {c : Int} {ds rows : List D} (W : WO S n a b c ds rows) (h : Ch n S S') : WO S' n a b c ds rows :=
  ⟨h.po W.po, by rw [h.get W.an]; exact W.ga, by rw [h.get W.bn]; exact W.gb, W.an, W.bn, W.ab, W.gd, W.rl, W.rw⟩
theorem WO.more {S : Sto} {n a b : Nat} {c : Int} {ds rows : List D} (W : WO S n a b c ds rows) (x : O) : WO (S ++ [x]) n a b c ds rows := by
  have k : ∀ {i : Nat} {o : O}, S[i]? = some o → (S ++ [x])[i]? = some o := fun {i o} h => by
    rw [List.getElem?_append_left (List.getElem?_eq_some_iff.mp h).1]; exact h
  obtain ⟨p, q, e⟩ := W.po
  exact ⟨⟨p, q, k e⟩, k W.ga, k W.gb, W.an, W.bn, W.ab, W.gd, W.rl, W.rw⟩
theorem WO.set {S : Sto} {n a b : Nat} {c : Int} {ds rows : List D} (W : WO S n a b c ds rows) {q : Nat} (x : O) (h : q ≠ n ∧ q ≠ a ∧ q ≠ b) : WO (S.set q x) n a b c ds rows := by
  have k : ∀ {i : Nat} {o : O}, q ≠ i → S[i]? = some o → (S.set q x)[i]? = some o := fun {i o} hq h => by
    rw [List.getElem?_set_ne hq]; exact h
  obtain ⟨p, q', e⟩ := W.po
  exact ⟨⟨p, q', k h.1 e⟩, k h.2.1 W.ga, k h.2.2 W.gb, W.an, W.bn, W.ab, W.gd, W.rl, W.rw⟩
theorem WO.up {S : Sto} {n a b : Nat} {c c' : Int} {ds rows : List D} (W : WO S n a b c ds rows) (h : c ≤ c') : WO S n a b c' ds rows :=
  ⟨W.po, W.ga, W.gb, W.an, W.bn, W.ab, fun d hd => (W.gd d hd).up h, W.rl, fun d hd => by
    obtain ⟨l, e, h1, h2⟩ := W.rw d hd
    exact ⟨l, e, h1, fun y hy => ⟨(h2 y hy).1, by have := (h2 y hy).2; omega⟩⟩⟩
section
variable {S : Sto} {n a b : Nat} {c : Int} {ds rows : List D} (W : WO S n a b c ds rows) {m : Int} {Γ : En} {i : Nat}
include W
theorem w0_ev (h : mVar i Γ S = .ok (wv a b m) S) : mOp dIxA (mVar i) (mC (.int 0)) Γ S = .ok (.ref a) S := op_ev h rfl (ix_lst (j := 0) rfl)
theorem w1_ev (h : mVar i Γ S = .ok (wv a b m) S) : mOp dIxA (mVar i) (mC (.int 1)) Γ S = .ok (.ref b) S := op_ev h rfl (ix_lst (j := 1) rfl)
theorem w2_ev (h : mVar i Γ S = .ok (wv a b m) S) : mOp dIxA (mVar i) (mC (.int 2)) Γ S = .ok (.int m) S := op_ev h rfl (ix_lst (j := 2) rfl)
theorem row_ev (h : mVar i Γ S = .ok (wv a b m) S) {e : Ed} {k : Nat} (he : e Γ S = .ok (.int (k : Nat)) S) (hk : k < 4) : ∃ l : List Int, rows[k]? = some (.lst (l.map D.int)) ∧ l.length = 4 ∧ (∀ y ∈ l, 0 ≤ y ∧ y ≤ c) ∧ mOp dIxA (mOp dIxA (mVar i) (mC (.int 1))) e Γ S = .ok (.lst (l.map D.int)) S := by
  have hk2 : k < rows.length := by rw [W.rl]; exact hk
  obtain ⟨l, e1, h1, h2⟩ := W.rw rows[k] (List.getElem_mem hk2)
  have er : rows[k]? = some (.lst (l.map D.int)) := by rw [List.getElem?_eq_getElem hk2, e1]
  exact ⟨l, er, h1, h2, op_ev (w1_ev W h) he (ix_ref W.gb er)⟩
end
theorem ixl_int {l : List Int} {k : Nat} (hk : k < l.length) (S : Sto) : dIxA (.lst (l.map D.int)) (.int (k : Nat)) S = .ok (.int l[k]) S := ix_lst (by rw [List.getElem?_map, List.getElem?_eq_getElem hk]; rfl)
theorem ixt_int {l : List Int} {k : Nat} (hk : k < l.length) (S : Sto) : dIxA (.tup (l.map D.int)) (.int (k : Nat)) S = .ok (.int l[k]) S := ix_tup k (by rw [List.getElem?_map, List.getElem?_eq_getElem hk]; rfl)
theorem nat_of {v : Int} (h : 0 ≤ v) : ∃ k : Nat, v = (k : Int) := ⟨v.toNat, by omega⟩
/-- a deed in parts -/
theorem GD.parts {c : Int} {d : D} (h : GD c d) : ∃ (t : Int) (k : Nat) (l : List Int) (w : Str) (r : List D), d = .tup [.tup [.int t, .int (k : Nat)], .tup (l.map D.int), .tup (.str w :: r)] ∧ 1 ≤ t ∧ t ≤ c ∧ k < 4 ∧ l.length = 4 ∧ (∀ y ∈ l, 0 ≤ y ∧ y < t) ∧ GB w r := by
  obtain ⟨t, h, s0, s1, s2, s3, w, r, rfl, h1, h2, g0, g1, g2, g3, gb⟩ := h
  obtain ⟨k, rfl⟩ := nat_of h2.1
  refine ⟨t, k, [s0, s1, s2, s3], w, r, rfl, h1.1, h1.2, by omega, rfl, fun y hy => ?_, gb⟩
  simp at hy
  rcases hy with rfl | rfl | rfl | rfl <;> assumption
theorem GD.mk {c t : Int} {k : Nat} {l : List Int} {w : Str} {r : List D} (h1 : 1 ≤ t) (h2 : t ≤ c) (hk : k < 4) (hl : l.length = 4) (hy : ∀ y ∈ l, 0 ≤ y ∧ y < t) (gb : GB w r) : GD c (.tup [.tup [.int t, .int (k : Nat)], .tup (l.map D.int), .tup (.str w :: r)]) := by
  match l, hl, hy with
  | [s0, s1, s2, s3], _, hy => exact ⟨t, k, s0, s1, s2, s3, w, r, rfl, ⟨h1, h2⟩, ⟨by omega, by omega⟩, hy s0 (by simp), hy s1 (by simp), hy s2 (by simp), hy s3 (by simp), gb⟩
section
variable (A : Ads)
theorem seen_deeds {S : Sto} {n a b : Nat} {c : Int} {ds rows : List D} (W : WO S n a b c ds rows) (m : Int) {k : Nat} (hk : k < 4) (hb : ds.length < 1000) :
    ∃ p : D → Bool, m__law_seen_deeds A [wv a b m, .int (k : Nat)] S = .ok (.lst (ds.filter p)) S := by
  obtain ⟨l, _, hl, _, er⟩ := row_ev W (m := m) (Γ := enter 4 [wv a b m, .int (k : Nat)]) (i := 0) rfl (e := mVar 1) rfl hk
  generalize hΓ : (enter 4 [wv a b m, .int (k : Nat)]).set 2 (some (.lst (l.map D.int))) = Γ
  have v0 : mVar 0 Γ S = .ok (wv a b m) S := by rw [← hΓ]; rfl
  obtain ⟨p, e⟩ := lc_some (f := true) (vs := [3]) (j := 3) (cnd := mT (mOp dLe (mOp dIxA (mOp dIxA (mVar 3) (mC (.int 0))) (mC (.int 0))) (mOp dIxA (mVar 2) (mOp dIxA (mOp dIxA (mVar 3) (mC (.int 0))) (mC (.int 1)))))) (elt := mVar 3) (any_ref (w0_ev W v0) W.ga) (its_seq (xs := ds) (by simp [dL, W.ga])) id (fun x hx => by
    obtain ⟨t, h, s, w, r, rfl, _, _, hh, _⟩ := (W.gd x hx).parts
    generalize hΘ : (wipeE Γ [3]).set 3 (some (.tup [.tup [.int t, .int (h : Nat)], .tup (s.map D.int), .tup (.str w :: r)])) = Θ
    have z3 : mVar 3 Θ S = .ok (.tup [.tup [.int t, .int (h : Nat)], .tup (s.map D.int), .tup (.str w :: r)]) S := by rw [← hΘ, ← hΓ]; rfl
    have z2 : mVar 2 Θ S = .ok (.lst (l.map D.int)) S := by rw [← hΘ, ← hΓ]; rfl
    have z30 : mOp dIxA (mVar 3) (mC (.int 0)) Θ S = .ok (.tup [.int t, .int (h : Nat)]) S := ixt_ev 0 z3 rfl
    exact ⟨_, t_ev (op_ev (ixt_ev 0 z30 rfl) (op_ev z2 (ixt_ev 1 z30 rfl) (ixl_int (by omega) S)) rfl), fun _ => z3⟩) (by unfold big; omega)
  rw [List.map_id] at e
  refine ⟨p, ?_⟩
  unfold m__law_seen_deeds
  refine run_ev (seq_ev (asg_ev er) ?_)
  rw [hΓ]
  exact ret_ev e
theorem list_int {e : Ed} {Γ : En} {S S1 : Sto} {d : D} {l : List Int} (h : e Γ S = .ok d S1) (hd : d = .lst (l.map D.int) ∨ d = .tup (l.map D.int)) : mBlt (fList false) (aCons e aNil) Γ S = .ok (.ref S1.length) (S1 ++ [.lst (l.map D.int)]) := by
  rcases hd with rfl | rfl <;> simp [mBlt, aCons, h, fList, dSq, dL, mkL]
theorem int_ev {e : Ed} {Γ : En} {S S1 : Sto} {i : Int} (h : e Γ S = .ok (.int i) S1) : mBlt fInt (aCons e aNil) Γ S = .ok (.int i) S1 := by simp [mBlt, aCons, h, fInt]
theorem max2_ev {e e1 : Ed} {Γ : En} {S S1 S2 : Sto} {i j : Int} (h : e Γ S = .ok (.int i) S1) (h1 : e1 Γ S1 = .ok (.int j) S2) : mBlt fMaxA (aCons e (aCons e1 aNil)) Γ S = .ok (.int (if j > i then j else i)) S2 := by simp [mBlt, aCons, h, h1, fMaxM, fMax2]
theorem sub_ev {me ma mi : Ed} {Γ : En} {S S1 : Sto} {v : D} {b k : Nat} {xs : List D} (h : me Γ S = .ok v S1) (ha : ma Γ S1 = .ok (.ref b) S1) (hi : mi Γ S1 = .ok (.int (k : Nat)) S1) (hg : S1[b]? = some (.lst xs)) (hk : k < xs.length) : sSub me ma mi Γ S = .nx Γ (S1.set b (.lst (xs.set k v))) := by
  have : ixN xs.length (k : Int) = some k := by
    unfold ixN
    simp [hk]
  simp [sSub, h, ha, hi, hg, this]
/-- a row is set -/
theorem WO.setRow {S : Sto} {n a b : Nat} {c : Int} {ds rows : List D} (W : WO S n a b c ds rows) {k : Nat} {l : List Int} (hl : l.length = 4) (hy : ∀ y ∈ l, 0 ≤ y ∧ y ≤ c) : WO (S.set b (.lst (rows.set k (.lst (l.map D.int))))) n a b c ds (rows.set k (.lst (l.map D.int))) := by
  have lb : b < S.length := (List.getElem?_eq_some_iff.mp W.gb).1
  obtain ⟨p, q, e⟩ := W.po
  refine ⟨⟨p, q, by rw [List.getElem?_set_ne W.bn]; exact e⟩, by rw [List.getElem?_set_ne (Ne.symm W.ab)]; exact W.ga, List.getElem?_set_self lb, W.an, W.bn, W.ab, W.gd, by rw [List.length_set]; exact W.rl, fun d hd => ?_⟩
  rcases List.mem_or_eq_of_mem_set hd with h | h
  · exact W.rw d h
  · exact ⟨l, h, hl, hy⟩
theorem rg4 {Γ : En} {S : Sto} : iRg rng1 (aCons (mC (.int 4)) aNil) Γ S = .ok (.rng 0 4) S := rfl
theorem rgD4 : rgD 4 = [0, 1, 2, 3].map fun i : Nat => D.int (i : Int) := rfl
theorem mem_rg {x : D} (h : x ∈ rgD 4) : ∃ k : Nat, x = .int (k : Int) ∧ k < 4 := by
  rw [rgD4] at h
  simp at h
  rcases h with rfl | rfl | rfl | rfl
  · exact ⟨0, rfl, by omega⟩
  · exact ⟨1, rfl, by omega⟩
  · exact ⟨2, rfl, by omega⟩
  · exact ⟨3, rfl, by omega⟩
/-- four numbers by a rule -/
theorem four {vs : List Nat} {j : Nat} {elt : Ed} {Γ : En} {S : Sto} {c : Int} (h : ∀ k : Nat, k < 4 → ∃ y : Int, elt ((wipeE Γ vs).set j (some (.int (k : Int)))) S = .ok (.int y) S ∧ 0 ≤ y ∧ y ≤ c) :
    ∃ l : List Int, mLc true vs (iRg rng1 (aCons (mC (.int 4)) aNil)) (gN j) bYes elt Γ S = .ok (.lst (l.map D.int)) S ∧ l.length = 4 ∧ ∀ y ∈ l, 0 ≤ y ∧ y ≤ c := by
  obtain ⟨y0, e0, g0⟩ := h 0 (by omega)
  obtain ⟨y1, e1, g1⟩ := h 1 (by omega)
  obtain ⟨y2, e2, g2⟩ := h 2 (by omega)
  obtain ⟨y3, e3, g3⟩ := h 3 (by omega)
  refine ⟨[y0, y1, y2, y3], ?_, rfl, fun y hy => ?_⟩
  · have := lc_all (f := true) (vs := vs) (j := j) (elt := elt) (Γ := Γ) (S0 := S) rg4 (its_rng 4 S) (fun x => match x with | .int 0 => .int y0 | .int 1 => .int y1 | .int 2 => .int y2 | _ => .int y3) (fun x hx => by
      rw [rgD4] at hx
      simp at hx
      rcases hx with rfl | rfl | rfl | rfl
      · exact e0
      · exact e1
      · exact e2
      · exact e3) (by decide)
    rw [this]
    rfl
  · simp at hy
    rcases hy with rfl | rfl | rfl | rfl <;> assumption
end
end K01
end

section
set_option Elab.async false
set_option linter.all false
set_option maxRecDepth 100000
set_option maxHeartbeats 1000000
namespace K01
open PySem PySem.Spec PyProof.Rows L2 Fx
variable [Nam]
/-! ## a deed is done -/
section
variable (A : Ads)
theorem intsD_map (l : List Int) : intsD (l.map D.int) = some l := by
  induction l with
  | nil => rfl
  | cons x l ih => simp [intsD, ih]
theorem max_ev {e : Ed} {Γ : En} {S S1 : Sto} {l : List Int} (h : e Γ S = .ok (.lst (l.map D.int)) S1) (hl : l ≠ []) : mBlt fMaxA (aCons e aNil) Γ S = .ok (.int (maxI l)) S1 := by
  cases l with
  | nil => exact absurd rfl hl
  | cons x l => simp [mBlt, aCons, h, fMaxM, dL, intsD, intsD_map]
theorem addI_ev {e e1 : Ed} {Γ : En} {S S1 S2 : Sto} {i j : Int} (h : e Γ S = .ok (.int i) S1) (h1 : e1 Γ S1 = .ok (.int j) S2) : mOp (dAdd true) e e1 Γ S = .ok (.int (i + j)) S2 := op_ev h h1 rfl
theorem tuple_ev {e : Ed} {Γ : En} {S S1 : Sto} {l : List D} (h : e Γ S = .ok (.lst l) S1) : mBlt fTuple (aCons e aNil) Γ S = .ok (.tup l) S1 := by simp [mBlt, aCons, h, fTuple, dL]
theorem append_ev {o e : Ed} {Γ : En} {S S1 S2 : Sto} {a : Nat} {xs : List D} {y : D} (h : o Γ S = .ok (.ref a) S1) (g1 : S1[a]? = some (.lst xs)) (he : e Γ S1 = .ok y S2) (g2 : S2[a]? = some (.lst xs)) (hl : xs.length < 1000) : mAppend o e Γ S = .ok .non (S2.set a (.lst (xs ++ [y]))) := by
  have : xs.length < big := by unfold big; omega
  simp [mAppend, h, isM, g1, he, g2, this]
theorem steps5 : ∀ i ∈ ([0, 0, 0, 1, 4] : List Int), 0 ≤ i ∧ i ≤ 4 := by decide
/-- the world holds a deed more -/
theorem WO.addDeed {S : Sto} {n a b : Nat} {c : Int} {ds rows : List D} (W : WO S n a b c ds rows) {d : D} (h : GD c d) : WO (S.set a (.lst (ds ++ [d]))) n a b c (ds ++ [d]) rows := by
  have la : a < S.length := (List.getElem?_eq_some_iff.mp W.ga).1
  obtain ⟨p, q, e⟩ := W.po
  refine ⟨⟨p, q, by rw [List.getElem?_set_ne W.an]; exact e⟩, List.getElem?_set_self la, by rw [List.getElem?_set_ne W.ab]; exact W.gb, W.an, W.bn, W.ab, fun x hx => ?_, W.rl, W.rw⟩
  rcases List.mem_append.mp hx with hx | hx
  · exact W.gd x hx
  · simp at hx
    rw [hx]
    exact h
theorem do_ev {S : Sto} {n a b : Nat} {c : Int} {ds rows : List D} (W : WO S n a b c ds rows) (m : Int) {k : Nat} (hk : k < 4) (hb : ds.length < 1000) (h0 : 0 ≤ c) {w : Str} {r : List D} (gb : GB w r) :
    ∃ (t : Int) (S' : Sto) (d : D) (rows' : List D), m__law_do A [.ref n, wv a b m, .int (k : Nat), .tup (.str w :: r)] S = .ok (.tup [.int t, .int (k : Nat)]) S' ∧ WO S' n a b (c + 5) (ds ++ [d]) rows' ∧ 1 ≤ t ∧ t ≤ c + 5 := by
  obtain ⟨l, _, hl, hy, er⟩ := row_ev W (m := m) (Γ := enter 8 [.ref n, wv a b m, .int (k : Nat), .tup (.str w :: r)]) (i := 1) rfl (e := mVar 2) rfl hk
  have hne : l ≠ [] := by intro z; rw [z] at hl; cases hl
  generalize hΓ : (enter 8 [.ref n, wv a b m, .int (k : Nat), .tup (.str w :: r)]).set 4 (some (.lst (l.map D.int))) = Γ
  have v0 : ∀ S, mVar 0 Γ S = .ok (.ref n) S := fun S => by rw [← hΓ]; rfl
  have v2 : ∀ S, mVar 2 Γ S = .ok (.int (k : Nat)) S := fun S => by rw [← hΓ]; rfl
  have v4 : ∀ S, mVar 4 Γ S = .ok (.lst (l.map D.int)) S := fun S => by rw [← hΓ]; rfl
  -- the greatest
  have em : mLc true [6] (iAny (mVar 4)) (gN 6) bYes (mBlt fInt (aCons (mVar 6) aNil)) Γ S = .ok (.lst (l.map D.int)) S := by
    have := lc_all (f := true) (vs := [6]) (j := 6) (elt := mBlt fInt (aCons (mVar 6) aNil)) (any_lst (v4 S)) (its_seq rfl) id (fun x hx => by
      obtain ⟨i, _, rfl⟩ := List.mem_map.mp hx
      exact int_ev (show mVar 6 _ S = .ok (.int i) S by rw [← hΓ]; rfl)) (by rw [List.length_map, hl]; decide)
    rw [List.map_id] at this
    exact this
  obtain ⟨mm, mx⟩ := maxI_mem l hne
  generalize hM : maxI l = M at mm mx
  have hM2 := hy M mm
  obtain ⟨i, S1, e1, c1, m1⟩ := one_call A W.po (v0 S) (intL_ev [0, 0, 0, 1, 4]) (by simp) (by simp)
  have m1 : i ∈ ([0, 0, 0, 1, 4] : List Int).map D.int := m1
  obtain ⟨iz, hi, rfl⟩ := List.mem_map.mp m1
  have hi := steps5 iz hi
  have W1 := (W.ch c1).up (c' := c + 5) (by omega)
  have est : mTup (aCons (mOp (dAdd true) (mOp (dAdd true) (mC (.int 1)) (mBlt fMaxA (aCons (mLc true [6] (iAny (mVar 4)) (gN 6) bYes (mBlt fInt (aCons (mVar 6) aNil))) aNil))) (mCall 2 (m__law_one A) (aCons (mVar 0) (aCons (mLst true (intA [0, 0, 0, 1, 4])) aNil)))) (aCons (mVar 2) aNil)) Γ S = .ok (.tup [.int (1 + M + iz), .int (k : Nat)]) S1 :=
    mtup_ev (acons (addI_ev (addI_ev (i := 1) rfl ((max_ev em hne).trans (by rw [hM]))) e1) (acons (v2 S1) rfl))
  generalize hΔ : Γ.set 5 (some (.tup [.int (1 + M + iz), .int (k : Nat)])) = Δ
  have x1 : ∀ S, mVar 1 Δ S = .ok (wv a b m) S := fun S => by rw [← hΔ, ← hΓ]; rfl
  have x2 : ∀ S, mVar 2 Δ S = .ok (.int (k : Nat)) S := fun S => by rw [← hΔ, ← hΓ]; rfl
  have x3 : ∀ S, mVar 3 Δ S = .ok (.tup (.str w :: r)) S := fun S => by rw [← hΔ, ← hΓ]; rfl
  have x4 : ∀ S, mVar 4 Δ S = .ok (.lst (l.map D.int)) S := fun S => by rw [← hΔ, ← hΓ]; rfl
  have x5 : ∀ S, mVar 5 Δ S = .ok (.tup [.int (1 + M + iz), .int (k : Nat)]) S := fun S => by rw [← hΔ, ← hΓ]; rfl
  have gd : GD (c + 5) (.tup [.tup [.int (1 + M + iz), .int (k : Nat)], .tup (l.map D.int), .tup (.str w :: r)]) := GD.mk (by omega) (by omega) hk hl (fun y hyy => ⟨(hy y hyy).1, by have := mx y hyy; omega⟩) gb
  have e3 : mTup (aCons (mVar 5) (aCons (mBlt fTuple (aCons (mVar 4) aNil)) (aCons (mVar 3) aNil))) Δ S1 = .ok (.tup [.tup [.int (1 + M + iz), .int (k : Nat)], .tup (l.map D.int), .tup (.str w :: r)]) S1 := mtup_ev (acons (x5 S1) (acons (tuple_ev (x4 S1)) (acons (x3 S1) rfl)))
  have ea := append_ev (w0_ev W1 (x1 S1)) W1.ga e3 W1.ga hb
  have W2 := W1.addDeed gd
  generalize hS2 : S1.set a (.lst (ds ++ [.tup [.tup [.int (1 + M + iz), .int (k : Nat)], .tup (l.map D.int), .tup (.str w :: r)]])) = S2 at ea W2
  obtain ⟨l2, e2, hl2, hy2⟩ := four (vs := [7]) (j := 7) (elt := mIf (mT (mOp (dEqA false) (mVar 7) (mVar 2))) (mOp dIxA (mVar 5) (mC (.int 0))) (mOp dIxA (mVar 4) (mVar 7))) (Γ := Δ) (S := S2) (c := c + 5) (fun j hj => by
    generalize hΘ : (wipeE Δ [7]).set 7 (some (.int (j : Int))) = Θ
    have z7 : mVar 7 Θ S2 = .ok (.int (j : Int)) S2 := by rw [← hΘ, ← hΔ, ← hΓ]; rfl
    have z2 : mVar 2 Θ S2 = .ok (.int (k : Nat)) S2 := by rw [← hΘ, ← hΔ, ← hΓ]; rfl
    have z4 : mVar 4 Θ S2 = .ok (.lst (l.map D.int)) S2 := by rw [← hΘ, ← hΔ, ← hΓ]; rfl
    have z5 : mVar 5 Θ S2 = .ok (.tup [.int (1 + M + iz), .int (k : Nat)]) S2 := by rw [← hΘ, ← hΔ, ← hΓ]; rfl
    have tq := t_ev (eqI_ev (n := false) z7 z2)
    unfold mIf
    rw [tq, Res.bind_ok, nb_f]
    cases hq : decide ((j : Int) = (k : Int)) with
    | true => exact ⟨1 + M + iz, ixt_ev 0 z5 rfl, by omega, by omega⟩
    | false => exact ⟨l[j]'(by omega), op_ev z4 z7 (ixl_int (by omega) S2), (hy _ (List.getElem_mem _)).1, by have := (hy _ (List.getElem_mem (show j < l.length by omega))).2; omega⟩)
  have hkr : k < rows.length := by rw [W.rl]; exact hk
  have es := sub_ev e2 (w1_ev W2 (x1 S2)) (x2 S2) W2.gb hkr
  refine ⟨1 + M + iz, _, _, _, ?_, W2.setRow (k := k) hl2 hy2, by omega, by omega⟩
  unfold m__law_do
  refine run_ev (seq_ev (asg_ev er) ?_)
  rw [hΓ]
  refine seq_ev (asg_ev est) ?_
  rw [hΔ]
  exact seq_ev (drop_ev ea) (seq_ev es (ret_ev (x5 _)))
theorem learn_ev {S : Sto} {n a b : Nat} {c : Int} {ds rows : List D} (W : WO S n a b c ds rows) {m : Int} (hm0 : 0 < m) (hm : m ≤ 4) {k : Nat} (hk : k < 4) (hb : ds.length < 1000) (h0 : 0 ≤ c) :
    ∃ (S' : Sto) (rows' : List D), m__law_learn A [.ref n, wv a b m, .int (k : Nat)] S = .ok .non S' ∧ WO S' n a b c ds rows' := by
  have v1 : ∀ S, mVar 1 (enter 8 [.ref n, wv a b m, .int (k : Nat)]) S = .ok (wv a b m) S := fun S => rfl
  obtain ⟨v, S1, e1, c1, hv0, hv1⟩ := take_call A (k := m) W.po (e0 := mVar 0) (Γ := enter 8 [.ref n, wv a b m, .int (k : Nat)]) rfl (w2_ev W (v1 S)) hm0 (by omega)
  obtain ⟨o, rfl⟩ := nat_of hv0
  have W1 := W.ch c1
  generalize hΓ : (enter 8 [.ref n, wv a b m, .int (k : Nat)]).set 3 (some (.int (o : Int))) = Γ
  have u1 : ∀ S, mVar 1 Γ S = .ok (wv a b m) S := fun S => by rw [← hΓ]; rfl
  obtain ⟨p4, e4⟩ := lc_some (f := true) (vs := [6]) (j := 6) (cnd := mT (mOp (dEqA false) (mOp dIxA (mOp dIxA (mVar 6) (mC (.int 0))) (mC (.int 1))) (mVar 3))) (elt := mVar 6) (any_ref (w0_ev W1 (u1 S1)) W1.ga) (its_seq (xs := ds) (by simp [dL, W1.ga])) id (fun x hx => by
    obtain ⟨t, h, s, w, r, rfl, _⟩ := (W.gd x hx).parts
    generalize hΘ : (wipeE Γ [6]).set 6 (some (.tup [.tup [.int t, .int (h : Nat)], .tup (s.map D.int), .tup (.str w :: r)])) = Θ
    have z6 : mVar 6 Θ S1 = .ok (.tup [.tup [.int t, .int (h : Nat)], .tup (s.map D.int), .tup (.str w :: r)]) S1 := by rw [← hΘ, ← hΓ]; rfl
    have z3 : mVar 3 Θ S1 = .ok (.int (o : Int)) S1 := by rw [← hΘ, ← hΓ]; rfl
    exact ⟨_, t_ev (eqI_ev (ixt_ev 1 (ixt_ev 0 z6 rfl) rfl) z3), fun _ => z6⟩) (by unfold big; omega)
  rw [List.map_id] at e4
  generalize hsm : ds.filter p4 = sm at e4
  have msm : ∀ x ∈ sm, x ∈ ds := fun x hx => by rw [← hsm] at hx; exact (List.mem_filter.mp hx).1
  have lsm : sm.length < 1000 := by rw [← hsm]; exact Nat.lt_of_le_of_lt (List.length_filter_le _ _) hb
  generalize hΔ : Γ.set 4 (some (.lst sm)) = Δ
  have x1 : ∀ S, mVar 1 Δ S = .ok (wv a b m) S := fun S => by rw [← hΔ, ← hΓ]; rfl
  have x3 : ∀ S, mVar 3 Δ S = .ok (.int (o : Int)) S := fun S => by rw [← hΔ, ← hΓ]; rfl
  obtain ⟨l5, _, hl5, hy5, e5⟩ := row_ev W1 (x1 S1) (x3 S1) (by omega)
  have e5' := list_int e5 (.inl rfl)
  have W2 := W1.more (.lst (l5.map D.int))
  generalize hS2 : S1 ++ [O.lst (l5.map D.int)] = S2 at e5' W2
  have gq : S2[S1.length]? = some (.lst (l5.map D.int)) := by rw [← hS2, List.getElem?_append_right (Nat.le_refl _), Nat.sub_self]; rfl
  have lt : ∀ {i : Nat} {o : O}, S1[i]? = some o → S1.length ≠ i := fun h z => by have := (List.getElem?_eq_some_iff.mp h).1; omega
  obtain ⟨pa, pb, pe⟩ := W1.po
  have qn : S1.length ≠ n := lt pe
  have qa : S1.length ≠ a := lt W1.ga
  have qb : S1.length ≠ b := lt W1.gb
  generalize S1.length = q at *
  generalize hΔ5 : Δ.set 5 (some (.ref q)) = Δ5
  have y : ∀ (i : Nat) (d : D), Δ5[i]? = some (some d) → ∀ S, mVar i Δ5 S = .ok d S := fun i d h S => mVar_ev h
  have y0 : ∀ S, mVar 0 Δ5 S = .ok (.ref n) S := fun S => by rw [← hΔ5, ← hΔ, ← hΓ]; rfl
  have y1 : ∀ S, mVar 1 Δ5 S = .ok (wv a b m) S := fun S => by rw [← hΔ5, ← hΔ, ← hΓ]; rfl
  have y4 : ∀ S, mVar 4 Δ5 S = .ok (.lst sm) S := fun S => by rw [← hΔ5, ← hΔ, ← hΓ]; rfl
  -- the end, from any state with a list at q
  have fin : ∀ (Θ : En) (S3 : Sto) (q' : Nat) (l' : List Int), WO S3 n a b c ds rows → (∀ S, mVar 1 Θ S = .ok (wv a b m) S) → (∀ S, mVar 2 Θ S = .ok (.int (k : Nat)) S) → S3[q']? = some (.lst (l'.map D.int)) → l'.length = 4 → (∀ y ∈ l', 0 ≤ y ∧ y ≤ c) →
      (∀ (x : D) S, mVar 1 ((wipeE Θ [7]).set 7 (some x)) S = .ok (wv a b m) S ∧ mVar 2 ((wipeE Θ [7]).set 7 (some x)) S = .ok (.int (k : Nat)) S ∧ mVar 5 ((wipeE Θ [7]).set 7 (some x)) S = .ok (.ref q') S ∧ mVar 7 ((wipeE Θ [7]).set 7 (some x)) S = .ok x S) →
      ∃ S' rows', sSub (mLc true [7] (iRg rng1 (aCons (mC (.int 4)) aNil)) (gN 7) bYes (mBlt fMaxA (aCons (mBlt fInt (aCons (mOp dIxA (mVar 5) (mVar 7)) aNil)) (aCons (mBlt fInt (aCons (mOp dIxA (mOp dIxA (mOp dIxA (mVar 1) (mC (.int 1))) (mVar 2)) (mVar 7)) aNil)) aNil)))) (mOp dIxA (mVar 1) (mC (.int 1))) (mVar 2) Θ S3 = .nx Θ S' ∧ WO S' n a b c ds rows' := by
    intro Θ S3 q' l' W3 t1 t2 gq' hl' hy' tb
    obtain ⟨l2, e2, hl2, hy2⟩ := four (vs := [7]) (j := 7) (elt := mBlt fMaxA (aCons (mBlt fInt (aCons (mOp dIxA (mVar 5) (mVar 7)) aNil)) (aCons (mBlt fInt (aCons (mOp dIxA (mOp dIxA (mOp dIxA (mVar 1) (mC (.int 1))) (mVar 2)) (mVar 7)) aNil)) aNil))) (Γ := Θ) (S := S3) (c := c) (fun j hj => by
      obtain ⟨b1, b2, b5, b7⟩ := tb (.int (j : Int)) S3
      obtain ⟨lr, _, hlr, hyr, er⟩ := row_ev W3 b1 b2 hk
      have i1 := int_ev (op_ev (g := dIxA) b5 b7 (ix_ref (d := .int (l'[j]'(by omega))) gq' (by rw [List.getElem?_map, List.getElem?_eq_getElem (by omega)]; rfl)))
      have i2 := int_ev (op_ev (g := dIxA) er b7 (ixl_int (show j < lr.length by omega) S3))
      refine ⟨_, max2_ev i1 i2, ?_⟩
      have g1 := hy' _ (List.getElem_mem (show j < l'.length by omega))
      have g2 := hyr _ (List.getElem_mem (show j < lr.length by omega))
      split <;> omega)
    exact ⟨_, _, sub_ev e2 (w1_ev W3 (t1 S3)) (t2 S3) W3.gb (by rw [W.rl]; exact hk), W3.setRow (k := k) hl2 hy2⟩
  have q1 : mT (mOp (dEqA true) (mVar 4) (mLst true aNil)) Δ5 S2 = .ok (!sm.isEmpty) S2 := t_ev (op_ev (y4 S2) (d1 := .lst []) rfl (eqNil S2 true sm))
  have wrap : ∀ {Θ : En} {S3 S' : Sto}, (sIf (mAnd (mT (mOp (dEqA true) (mVar 4) (mLst true aNil))) (mT (mOp (dEqA false) (mCall 2 (m__law_take A) (aCons (mVar 0) (aCons (mC (.int 3)) aNil))) (mC (.int 0))))) (sSeq (sAsg (gN 6) (mCall 2 (m__law_one A) (aCons (mVar 0) (aCons (mVar 4) aNil)))) (sSeq (sAsg (gN 5) (mBlt (fList false) (aCons (mOp dIxA (mVar 6) (mC (.int 1))) aNil))) (sSub (mOp dIxA (mOp dIxA (mVar 6) (mC (.int 0))) (mC (.int 0))) (mVar 5) (mVar 3)))) sPass) Δ5 S2 = .nx Θ S3 →
      sSub (mLc true [7] (iRg rng1 (aCons (mC (.int 4)) aNil)) (gN 7) bYes (mBlt fMaxA (aCons (mBlt fInt (aCons (mOp dIxA (mVar 5) (mVar 7)) aNil)) (aCons (mBlt fInt (aCons (mOp dIxA (mOp dIxA (mOp dIxA (mVar 1) (mC (.int 1))) (mVar 2)) (mVar 7)) aNil)) aNil)))) (mOp dIxA (mVar 1) (mC (.int 1))) (mVar 2) Θ S3 = .nx Θ S' →
      m__law_learn A [.ref n, wv a b m, .int (k : Nat)] S = .ok .non S' := fun {Θ S3 S'} h1 h2 => by
    unfold m__law_learn
    refine run_nx (Γ' := Θ) (seq_ev (asg_ev e1) ?_)
    rw [hΓ]
    refine seq_ev (asg_ev e4) ?_
    rw [hΔ]
    refine seq_ev (asg_ev e5') ?_
    rw [hΔ5]
    exact seq_ev h1 h2
  by_cases he : sm = []
  · have t2 := tand_ev (S1 := S2) (x := false) (y := false) (t := mT (mOp (dEqA false) (mCall 2 (m__law_take A) (aCons (mVar 0) (aCons (mC (.int 3)) aNil))) (mC (.int 0)))) (q1.trans (by rw [he]; rfl)) (fun z => nomatch z)
    obtain ⟨S', rows', ef, Wf⟩ := fin Δ5 S2 q l5 W2 y1 (fun S => by rw [← hΔ5, ← hΔ, ← hΓ]; rfl) gq hl5 hy5 (fun x S => ⟨by rw [← hΔ5, ← hΔ, ← hΓ]; rfl, by rw [← hΔ5, ← hΔ, ← hΓ]; rfl, by rw [← hΔ5, ← hΔ, ← hΓ]; rfl, by rw [← hΔ5, ← hΔ, ← hΓ]; rfl⟩)
    exact ⟨S', rows', wrap (if_f t2 rfl) ef, Wf⟩
  · obtain ⟨u, S3, e6, c3, _⟩ := take_call A (k := 3) W2.po (y0 S2) (e1 := mC (.int 3)) rfl (by decide) (by decide)
    have hq : (!sm.isEmpty) = true := by cases sm <;> simp_all
    have t2 : mAnd (mT (mOp (dEqA true) (mVar 4) (mLst true aNil))) (mT (mOp (dEqA false) (mCall 2 (m__law_take A) (aCons (mVar 0) (aCons (mC (.int 3)) aNil))) (mC (.int 0)))) Δ5 S2 = .ok (decide (u = 0)) S3 := by
      unfold mAnd
      rw [q1, hq]
      exact t_ev (eqI_ev e6 rfl)
    have W3 := W2.ch c3
    have gq3 : S3[q]? = some (.lst (l5.map D.int)) := by rw [c3.get qn]; exact gq
    by_cases hu : u = 0
    · obtain ⟨d, S4, e7, c4, hd⟩ := one_call A W3.po (y0 S3) (y4 S3) he (by omega)
      have W4 := W3.ch c4
      obtain ⟨t, h, s, w, r, rfl, ht1, ht2, hh, hs, hsy, _⟩ := (W.gd d (msm d hd)).parts
      generalize hΔ6 : Δ5.set 6 (some (.tup [.tup [.int t, .int (h : Nat)], .tup (s.map D.int), .tup (.str w :: r)])) = Δ6
      have z6 : ∀ S, mVar 6 Δ6 S = .ok (.tup [.tup [.int t, .int (h : Nat)], .tup (s.map D.int), .tup (.str w :: r)]) S := fun S => by rw [← hΔ6, ← hΔ5, ← hΔ, ← hΓ]; rfl
      have e8 := list_int (ixt_ev 1 (z6 S4) rfl) (.inr rfl)
      have W5 := W4.more (.lst (s.map D.int))
      have gq5 : (S4 ++ [O.lst (s.map D.int)])[S4.length]? = some (.lst (s.map D.int)) := by rw [List.getElem?_append_right (Nat.le_refl _), Nat.sub_self]; rfl
      have lt4 : ∀ {i : Nat} {o : O}, S4[i]? = some o → S4.length ≠ i := fun h z => by have := (List.getElem?_eq_some_iff.mp h).1; omega
      obtain ⟨pa4, pb4, pe4⟩ := W4.po
      have rn := lt4 pe4
      have ra := lt4 W4.ga
      have rb := lt4 W4.gb
      generalize hS5 : S4 ++ [O.lst (s.map D.int)] = S5 at *
      generalize hqq : S4.length = qq at *
      generalize hΔ7 : Δ6.set 5 (some (.ref qq)) = Δ7
      have o3 : o < s.length := by omega
      have e9 := sub_ev (me := mOp dIxA (mOp dIxA (mVar 6) (mC (.int 0))) (mC (.int 0))) (ma := mVar 5) (mi := mVar 3) (Γ := Δ7) (S := S5) (S1 := S5) (v := .int t) (b := qq) (k := o) (xs := s.map D.int) (ixt_ev 0 (ixt_ev 0 (show mVar 6 Δ7 S5 = .ok (.tup [.tup [.int t, .int (h : Nat)], .tup (s.map D.int), .tup (.str w :: r)]) S5 by rw [← hΔ7, ← hΔ6, ← hΔ5, ← hΔ, ← hΓ]; rfl) rfl) rfl) (by rw [← hΔ7, ← hΔ6, ← hΔ5, ← hΔ, ← hΓ]; rfl) (by rw [← hΔ7, ← hΔ6, ← hΔ5, ← hΔ, ← hΓ]; rfl) gq5 (by rw [List.length_map]; exact o3)
      have W6 := W5.set (.lst ((s.map D.int).set o (.int t))) ⟨rn, ra, rb⟩
      have lq5 : qq < S5.length := (List.getElem?_eq_some_iff.mp gq5).1
      have gq6 : (S5.set qq (.lst ((s.map D.int).set o (.int t))))[qq]? = some (.lst ((s.set o t).map D.int)) := by rw [List.getElem?_set_self lq5, List.map_set]
      obtain ⟨S', rows', ef, Wf⟩ := fin Δ7 _ qq (s.set o t) W6 (fun S => by rw [← hΔ7, ← hΔ6, ← hΔ5, ← hΔ, ← hΓ]; rfl) (fun S => by rw [← hΔ7, ← hΔ6, ← hΔ5, ← hΔ, ← hΓ]; rfl) gq6 (by rw [List.length_set]; exact hs) (fun y hy => by
        rcases List.mem_or_eq_of_mem_set hy with hy | hy
        · have := hsy y hy; omega
        · omega) (fun x S => ⟨by rw [← hΔ7, ← hΔ6, ← hΔ5, ← hΔ, ← hΓ]; rfl, by rw [← hΔ7, ← hΔ6, ← hΔ5, ← hΔ, ← hΓ]; rfl, by rw [← hΔ7, ← hΔ6, ← hΔ5, ← hΔ, ← hΓ]; rfl, by rw [← hΔ7, ← hΔ6, ← hΔ5, ← hΔ, ← hΓ]; rfl⟩)
      refine ⟨S', rows', wrap (if_t (t2.trans (by rw [decide_eq_true hu])) (seq_ev (asg_ev e7) ?_)) ef, Wf⟩
      rw [hΔ6]
      refine seq_ev (asg_ev e8) ?_
      rw [hΔ7]
      exact e9
    · obtain ⟨S', rows', ef, Wf⟩ := fin Δ5 S3 q l5 W3 y1 (fun S => by rw [← hΔ5, ← hΔ, ← hΓ]; rfl) gq3 hl5 hy5 (fun x S => ⟨by rw [← hΔ5, ← hΔ, ← hΓ]; rfl, by rw [← hΔ5, ← hΔ, ← hΓ]; rfl, by rw [← hΔ5, ← hΔ, ← hΓ]; rfl, by rw [← hΔ5, ← hΔ, ← hΓ]; rfl⟩)
      exact ⟨S', rows', wrap (if_f (t2.trans (by rw [decide_eq_false hu])) rfl) ef, Wf⟩
end
end K01
end

section
set_option Elab.async false
set_option linter.all false
set_option maxRecDepth 100000
set_option maxHeartbeats 1000000
namespace K01
open PySem PySem.Spec PyProof.Rows L2 Fx
variable [Nam]
/-! ## the drawn world -/
theorem lp_rng {N j : Nat} {b : Sd} (P : Nat → En → Sto → Prop) (hstep : ∀ (i : Nat) (Γ : En) (S : Sto), i < N → P i Γ S → ∃ Γ' S', b (Γ.set j (some (.int (i : Int)))) S = .nx Γ' S' ∧ P (i + 1) Γ' S') :
    ∀ (k i : Nat) (Γ : En) (S : Sto), i ≤ N → k = N - i + 1 → P i Γ S → ∃ Γ' S', lpF (.rng 0 N) (gN j) b k i Γ S = .nx Γ' S' ∧ P N Γ' S'
  | 0, i, Γ, S, hi, hk, _ => by omega
  | k + 1, i, Γ, S, hi, hk, hp => by
    unfold lpF
    by_cases h : i < N
    · obtain ⟨Γ1, S1, e, hp1⟩ := hstep i Γ S h hp
      obtain ⟨Γ2, S2, e2, hp2⟩ := lp_rng P hstep k (i + 1) Γ1 S1 (by omega) (by omega) hp1
      refine ⟨Γ2, S2, ?_, hp2⟩
      have : itS (.rng 0 N) i S = some (some (.int (i : Int))) := by simp [itS, h]
      rw [this]
      show (match b (Γ.set j (some (.int (i : Int)))) S with | .nx Γ2 S2 => _ | .ct Γ2 S2 => _ | .bk Γ2 S2 => _ | r => r) = _
      rw [e]
      exact e2
    · have hN : i = N := by omega
      have : itS (.rng 0 N) i S = some none := by simp [itS, h]
      rw [this]
      exact ⟨Γ, S, rfl, hN ▸ hp⟩
theorem for_rng {N j : Nat} {b : Sd} {src : Id'} {Γ : En} {S S1 : Sto} (e : src Γ S = .ok (.rng 0 N) S1) (P : Nat → En → Sto → Prop) (h0 : P 0 Γ S1) (hstep : ∀ (i : Nat) (Γ : En) (S : Sto), i < N → P i Γ S → ∃ Γ' S', b (Γ.set j (some (.int (i : Int)))) S = .nx Γ' S' ∧ P (i + 1) Γ' S') :
    ∃ Γ' S', sFor src (gN j) b Γ S = .nx Γ' S' ∧ P N Γ' S' := by
  unfold sFor
  rw [e]
  exact lp_rng P hstep _ 0 Γ S1 (Nat.zero_le _) rfl h0
theorem rng_ev {a : Ed} {Γ : En} {S S1 : Sto} {k : Nat} (h : a Γ S = .ok (.int (k : Nat)) S1) (hk : k < 1000) : iRg rng1 (aCons a aNil) Γ S = .ok (.rng 0 k) S1 := by
  have hb : InB (k : Int) := by unfold InB; omega
  unfold iRg
  rw [acons h rfl, Res.bind_ok]
  unfold rng1
  dsimp only
  rw [if_pos hb, Int.toNat_natCast]
section
variable (A : Ads)
theorem call4 {Γ : En} {S S1 S2 S3 S4 S5 : Sto} {e e1 e2 e3 : Ed} {f : Fn} {d d1 d2 d3 r : D} (h : e Γ S = .ok d S1) (h1 : e1 Γ S1 = .ok d1 S2) (h2 : e2 Γ S2 = .ok d2 S3) (h3 : e3 Γ S3 = .ok d3 S4) (hf : f [d, d1, d2, d3] S4 = .ok r S5) : mCall 4 f (aCons e (aCons e1 (aCons e2 (aCons e3 aNil)))) Γ S = .ok r S5 := by simp [mCall, aCons, h, h1, h2, h3, arg, hf]
theorem step_ev {S : Sto} {n a b : Nat} {c : Int} {ds rows : List D} (W : WO S n a b c ds rows) {m : Int} (hm0 : 0 < m) (hm : m ≤ 4) (hb : ds.length ≤ 100) (h0 : 0 ≤ c) (hc : c ≤ 900) :
    ∃ (S' : Sto) (d v : D) (rows' : List D), m__law_step A [.ref n, wv a b m] S = .ok v S' ∧ WO S' n a b (c + 5) (ds ++ [d]) rows' := by
  obtain ⟨v, S1, e1, c1, hv0, hv1⟩ := take_call A (k := m) W.po (e0 := mVar 0) (Γ := enter 3 [.ref n, wv a b m]) rfl (w2_ev W (i := 1) (m := m) rfl) hm0 (by omega)
  obtain ⟨k, rfl⟩ := nat_of hv0
  have hk : k < 4 := by omega
  have W1 := W.ch c1
  generalize hΓ : (enter 3 [.ref n, wv a b m]).set 2 (some (.int (k : Int))) = Γ
  have x0 : ∀ S, mVar 0 Γ S = .ok (.ref n) S := fun S => by rw [← hΓ]; rfl
  have x1 : ∀ S, mVar 1 Γ S = .ok (wv a b m) S := fun S => by rw [← hΓ]; rfl
  have x2 : ∀ S, mVar 2 Γ S = .ok (.int (k : Nat)) S := fun S => by rw [← hΓ]; rfl
  obtain ⟨u, S2, e2, c2, _⟩ := take_call A (k := 2) W1.po (x0 S1) (e1 := mC (.int 2)) rfl (by decide) (by decide)
  have W2 := W1.ch c2
  have tq := t_ev (eqI_ev (n := false) e2 (e1 := mC (.int 0)) rfl)
  have mid : ∃ S3 rows3, sIf (mT (mOp (dEqA false) (mCall 2 (m__law_take A) (aCons (mVar 0) (aCons (mC (.int 2)) aNil))) (mC (.int 0)))) (sDrop (mCall 3 (m__law_learn A) (aCons (mVar 0) (aCons (mVar 1) (aCons (mVar 2) aNil))))) sPass Γ S1 = .nx Γ S3 ∧ WO S3 n a b c ds rows3 := by
    by_cases hu : u = 0
    · obtain ⟨S3, rows3, e3, W3⟩ := learn_ev A W2 hm0 hm hk (by omega) h0
      exact ⟨S3, rows3, if_t (tq.trans (by rw [nb_f, decide_eq_true hu])) (drop_ev (call3 (x0 S2) (x1 S2) (x2 S2) e3)), W3⟩
    · exact ⟨S2, rows, if_f (tq.trans (by rw [nb_f, decide_eq_false hu])) rfl, W2⟩
  obtain ⟨S3, rows3, e3, W3⟩ := mid
  obtain ⟨p, e4⟩ := seen_deeds A W3 m hk (by omega)
  have hf : ∀ d ∈ ds.filter p, GD c d := fun d hd => W3.gd d (List.mem_filter.mp hd).1
  obtain ⟨w, r, S4, e5, c4, gb⟩ := lawbody_ev A W3.po (c := c) (by omega) hf (Nat.le_trans (List.length_filter_le _ _) hb)
  have W4 := W3.ch c4
  obtain ⟨t, S5, d, rows5, e6, W5, _⟩ := do_ev A W4 m hk (by omega) h0 gb
  refine ⟨S5, d, .tup [.int t, .int (k : Nat)], rows5, ?_, W5⟩
  unfold m__law_step
  refine run_ev (seq_ev (asg_ev e1) ?_)
  rw [hΓ]
  exact seq_ev e3 (ret_ev (call4 (x0 S3) (x1 S3) (x2 S3) (call2 (x0 S3) (call2 (x1 S3) (x2 S3) e4) e5) e6))
def zr : D := .lst [.int 0, .int 0, .int 0, .int 0]
theorem world_ev {S : Sto} (m : Int) : m__law_world A [.int m] S = .ok (wv S.length (S.length + 1) m) (S ++ [.lst [], .lst [zr, zr, zr, zr]]) := by
  have e0 : mLst false aNil (enter 2 [.int m]) S = .ok (.ref S.length) (S ++ [.lst []]) := rfl
  have e1 := lc_all (f := false) (vs := [1]) (j := 1) (elt := mLst true (aCons (mC (.int 0)) (aCons (mC (.int 0)) (aCons (mC (.int 0)) (aCons (mC (.int 0)) aNil))))) (Γ := enter 2 [.int m]) (S0 := S ++ [O.lst []]) rg4 (its_rng 4 _) (fun _ => zr) (fun x hx => rfl) (by decide)
  have e2 : mLc false [1] (iRg rng1 (aCons (mC (.int 4)) aNil)) (gN 1) bYes (mLst true (aCons (mC (.int 0)) (aCons (mC (.int 0)) (aCons (mC (.int 0)) (aCons (mC (.int 0)) aNil))))) (enter 2 [.int m]) (S ++ [O.lst []]) = .ok (.ref (S.length + 1)) (S ++ [.lst [], .lst [zr, zr, zr, zr]]) := by
    rw [e1]
    show Res.ok (D.ref (S ++ [O.lst []]).length) (S ++ [O.lst []] ++ [.lst [zr, zr, zr, zr]]) = _
    simp
  unfold m__law_world
  exact run_ev (ret_ev (mlst_ev (acons e0 (acons e2 (acons (d := .int m) rfl rfl)))))
theorem world_wo {S : Sto} {n : Nat} (p : Po S n) : WO (S ++ [.lst [], .lst [zr, zr, zr, zr]]) n S.length (S.length + 1) 0 [] [zr, zr, zr, zr] := by
  have hn := p.lt
  obtain ⟨x, y, e⟩ := p
  refine ⟨⟨x, y, by rw [List.getElem?_append_left hn]; exact e⟩, by rw [List.getElem?_append_right (Nat.le_refl _), Nat.sub_self]; rfl, by rw [List.getElem?_append_right (by omega)]; simp, by omega, by omega, by omega, fun d hd => (nomatch hd), rfl, fun d hd => ?_⟩
  have hd : d = zr := by simpa using hd
  subst hd
  exact ⟨[0, 0, 0, 0], rfl, rfl, fun y hy => by simp at hy; omega⟩
theorem drawn_ev {S : Sto} {n : Nat} (p : Po S n) : ∃ (S' : Sto) (a b : Nat) (m c : Int) (ds rows : List D), m__law_drawn A [.ref n, .int 8, .int 3] S = .ok (wv a b m) S' ∧ WO S' n a b c ds rows ∧ c ≤ 60 ∧ ds.length ≤ 20 := by
  have v0 : ∀ S, mVar 0 (enter 7 [.ref n, .int 8, .int 3]) S = .ok (.ref n) S := fun S => rfl
  obtain ⟨v, S1, e1, c1, hv0, hv1⟩ := take_call A (k := 3) p (v0 S) (e1 := mVar 2) rfl (by decide) (by decide)
  have W1 := world_wo (c1.po p)
  have em := call1 (Γ := enter 7 [.ref n, .int 8, .int 3]) (addI_ev (i := 1) (e := mC (.int 1)) rfl e1) (world_ev A (S := S1) (1 + v))
  generalize ha : S1.length = a at W1 em
  generalize hb : a + 1 = b at W1 em
  generalize hm : 1 + v = m at em
  have hm0 : 0 < m := by omega
  have hm4 : m ≤ 3 := by omega
  generalize (S1 ++ [O.lst [], O.lst [zr, zr, zr, zr]]) = S2 at W1 em
  generalize hΓ : (enter 7 [.ref n, .int 8, .int 3]).set 3 (some (wv a b m)) = Γ
  -- what stays in the slots
  let Q : En → Prop := fun Γ => (∀ S, mVar 0 Γ S = .ok (.ref n) S) ∧ (∀ S, mVar 1 Γ S = .ok (.int 8) S) ∧ (∀ S, mVar 3 Γ S = .ok (wv a b m) S) ∧ 7 ≤ Γ.length
  have qset : ∀ {Γ : En} {j : Nat} {x : Option D}, Q Γ → j ≠ 0 → j ≠ 1 → j ≠ 3 → Q (Γ.set j x) := fun {Γ j x} q h0 h1 h3 => by
    obtain ⟨q0, q1, q3, ql⟩ := q
    have k : ∀ {i : Nat}, j ≠ i → (Γ.set j x)[i]? = Γ[i]? := fun h => List.getElem?_set_ne h
    refine ⟨fun S => ?_, fun S => ?_, fun S => ?_, by rw [List.length_set]; exact ql⟩
    · have := q0 S; unfold mVar at this ⊢; rw [k h0]; exact this
    · have := q1 S; unfold mVar at this ⊢; rw [k h1]; exact this
    · have := q3 S; unfold mVar at this ⊢; rw [k h3]; exact this
  have qΓ : Q Γ := by rw [← hΓ]; exact ⟨fun S => rfl, fun S => rfl, fun S => rfl, by simp [enter]⟩
  obtain ⟨u, S3, e3, c3, _⟩ := take_call A (k := 3) W1.po (qΓ.1 S2) (e1 := mC (.int 3)) rfl (by decide) (by decide)
  have W3 := W1.ch c3
  have tq := gt_ev e3
  have head : ∃ Γ' S' ds rows, sIf (mT (mOp dGt (mCall 2 (m__law_take A) (aCons (mVar 0) (aCons (mC (.int 3)) aNil))) (mC (.int 0)))) (sSeq (sAsg (gN 4) (mCall 4 (m__law_do A) (aCons (mVar 0) (aCons (mVar 3) (aCons (mC (.int 0)) (aCons (mTup (aCons (mC (.str ("make" : Str))) (aCons (mC (.str ("let" : Str))) (aCons (mTup (aCons (mC (.int 0)) (aCons (mC (.int 0)) aNil))) (aCons (mC (.int 1)) (aCons (mC (.str ("x" : Str))) aNil)))))) aNil)))))) (sSeq (sDrop (mCall 4 (m__law_do A) (aCons (mVar 0) (aCons (mVar 3) (aCons (mC (.int 0)) (aCons (mTup (aCons (mC (.str ("make" : Str))) (aCons (mC (.str ("use" : Str))) (aCons (mTup (aCons (mC (.int 0)) (aCons (mC (.int 0)) aNil))) (aCons (mC (.int 5)) (aCons (mVar 4) aNil)))))) aNil)))))) (sFor (iRg rng1 (aCons (mOp dIxA (mVar 3) (mC (.int 2))) aNil)) (gN 5) (B__law_drawn_1 A)))) sPass Γ S2 = .nx Γ' S' ∧ Q Γ' ∧ WO S' n a b 10 ds rows ∧ ds.length ≤ 2 := by
    by_cases hu : u > 0
    · have g1 : GB "make" [.str "let", .tup [.int 0, .int 0], .int 1, .str "x"] := ⟨by decide +kernel, by decide +kernel, by decide +kernel, by decide⟩
      obtain ⟨t, S4, d, rows4, e4, W4, ht1, ht2⟩ := do_ev A W3 m (k := 0) (by decide) (by simp) (by decide) g1
      have t5 : t ≤ 5 := by omega
      have k4 : mTup (aCons (mC (.str ("make" : Str))) (aCons (mC (.str ("let" : Str))) (aCons (mTup (aCons (mC (.int 0)) (aCons (mC (.int 0)) aNil))) (aCons (mC (.int 1)) (aCons (mC (.str ("x" : Str))) aNil))))) Γ S3 = .ok (.tup [.str "make", .str "let", .tup [.int 0, .int 0], .int 1, .str "x"]) S3 := rfl
      have f4 := call4 (Γ := Γ) (qΓ.1 S3) (qΓ.2.2.1 S3) (e2 := mC (.int 0)) rfl k4 e4
      generalize hΔ : Γ.set 4 (some (.tup [.int t, .int ((0 : Nat) : Int)])) = Δ
      have qΔ : Q Δ := by rw [← hΔ]; exact qset qΓ (by decide) (by decide) (by decide)
      have x4 : ∀ S, mVar 4 Δ S = .ok (.tup [.int t, .int 0]) S := fun S => by rw [← hΔ, ← hΓ]; rfl
      have st : stampD (.tup [.int t, .int 0]) = true := stamp_mk ht1 (by omega) (by decide) (by decide)
      have g2 : GB "make" [.str "use", .tup [.int 0, .int 0], .int 5, .tup [.int t, .int 0]] := by
        refine ⟨?_, by decide +kernel, fun d hd => ?_, by simp⟩
        · rw [bodyW, if_pos rfl]
          have hu : ¬ ("use" : Str) = "let" := by decide +kernel
          have pl0 : placeD (.tup [.int 0, .int 0]) = true := root_ok.1
          have pl1 : placeD (.tup [.int t, .int 0]) = true := by rw [placeD, st]; rfl
          simp [makeD, kcD, contD, hu, pl0, pl1, numD]
        · simp at hd
          rcases hd with rfl | rfl | rfl | rfl
          · decide +kernel
          · decide
          · decide
          · simp [Ba]; omega
      obtain ⟨t', S5, d', rows5, e5, W5, _, _⟩ := do_ev A W4 m (k := 0) (by decide) (by simp) (by omega) g2
      have k5 : mTup (aCons (mC (.str ("make" : Str))) (aCons (mC (.str ("use" : Str))) (aCons (mTup (aCons (mC (.int 0)) (aCons (mC (.int 0)) aNil))) (aCons (mC (.int 5)) (aCons (mVar 4) aNil))))) Δ S4 = .ok (.tup [.str "make", .str "use", .tup [.int 0, .int 0], .int 5, .tup [.int t, .int 0]]) S4 :=
        mtup_ev (acons rfl (acons rfl (acons rfl (acons rfl (acons (x4 S4) rfl)))))
      have f5 := call4 (Γ := Δ) (qΔ.1 S4) (qΔ.2.2.1 S4) (e2 := mC (.int 0)) rfl k5 e5
      obtain ⟨mk, hmk⟩ := nat_of (show 0 ≤ m by omega)
      have er : iRg rng1 (aCons (mOp dIxA (mVar 3) (mC (.int 2))) aNil) Δ S5 = .ok (.rng 0 mk) S5 := rng_ev (by rw [← hmk]; exact w2_ev W5 (qΔ.2.2.1 S5)) (by omega)
      obtain ⟨Γ', S', e6, q6, rows6, W6⟩ := for_rng (j := 5) (b := B__law_drawn_1 A) er (fun _ Γ S => Q Γ ∧ ∃ rows, WO S n a b (0 + 5 + 5) (([] ++ [d]) ++ [d']) rows) ⟨qΔ, rows5, W5⟩ (fun i Γ S hi ⟨q, rows, W⟩ => by
        have q' : Q (Γ.set 5 (some (.int (i : Int)))) := qset q (by decide) (by decide) (by decide)
        obtain ⟨l, _, hl, hy, e⟩ := row_ev W (q'.2.2.1 S) (e := mC (.int 0)) (k := 0) rfl (by decide)
        have el : mBlt (fList true) (aCons (mOp dIxA (mOp dIxA (mVar 3) (mC (.int 1))) (mC (.int 0))) aNil) (Γ.set 5 (some (.int (i : Int)))) S = .ok (.lst (l.map D.int)) S := by simp [mBlt, aCons, e, fList, dSq, dL, mkL]
        have hx5 : mVar 5 (Γ.set 5 (some (.int (i : Int)))) S = .ok (.int (i : Nat)) S := mVar_ev (List.getElem?_set_self (by have := q.2.2.2; omega))
        exact ⟨_, _, sub_ev el (w1_ev W (q'.2.2.1 S)) hx5 W.gb (by rw [W.rl]; omega), q', _, W.setRow (k := i) hl hy⟩)
      refine ⟨Γ', S', _, rows6, if_t (tq.trans (by rw [decide_eq_true hu])) (seq_ev (asg_ev f4) ?_), q6, W6.up (by omega), by simp⟩
      rw [hΔ]
      exact seq_ev (drop_ev f5) e6
    · exact ⟨Γ, S3, [], _, if_f (tq.trans (by rw [decide_eq_false hu])) rfl, qΓ, W3.up (by omega), by simp⟩
  obtain ⟨Γ4, S4, ds4, rows4, e4, q4, W4, l4⟩ := head
  obtain ⟨w, S5, e5, c5, hw0, hw1⟩ := take_call A (k := 9) W4.po (q4.1 S4) (e1 := mOp (dAdd true) (mVar 1) (mC (.int 1))) (addI_ev (i := 8) (j := 1) (q4.2.1 S4) rfl) (by decide) (by decide)
  obtain ⟨N, rfl⟩ := nat_of hw0
  have W5 := W4.ch c5
  obtain ⟨Γ6, S6, e6, q6, ds6, rows6, W6, l6⟩ := for_rng (j := 6) (b := B__law_drawn_2 A) (rng_ev e5 (by omega)) (fun i Γ S => Q Γ ∧ ∃ ds rows, WO S n a b (10 + 5 * (i : Int)) ds rows ∧ ds.length ≤ 2 + i) ⟨q4, ds4, rows4, by simpa using W5, by omega⟩ (fun i Γ S hi ⟨q, ds, rows, W, hl⟩ => by
    have q' : Q (Γ.set 6 (some (.int (i : Int)))) := qset q (by decide) (by decide) (by decide)
    obtain ⟨S', d, v, rows', e, W'⟩ := step_ev A W hm0 (by omega) (by omega) (by omega) (by omega)
    exact ⟨_, S', drop_ev (call2 (q'.1 S) (q'.2.2.1 S) e), q', _, rows', W'.up (by omega), by simp; omega⟩)
  refine ⟨S6, a, b, m, _, ds6, rows6, ?_, W6, by omega, by omega⟩
  unfold m__law_drawn
  refine run_ev (seq_ev (asg_ev em) ?_)
  rw [hΓ]
  exact seq_ev e4 (seq_ev e6 (ret_ev (q6.2.2.1 S6)))
end
end K01
end

section
set_option Elab.async false
set_option linter.all false
set_option maxRecDepth 100000
set_option maxHeartbeats 1000000
namespace K01
open PySem PySem.Spec PyProof.Rows L2 Fx
variable [Nam]
/-! ## the pool, new; odd things; bent things -/
theorem mul_ok (i : Int) {j : Int} (h : 0 ≤ j) (h2 : j < 1000000) (S : Sto) : dMul (.int i) (.int j) S = .ok (.int (i * j)) S := by
  have : CMul i j := .inr ⟨by omega, by omega⟩
  simp [dIC, this]
theorem add_ii (f : Bool) (i j : Int) (S : Sto) : dAdd f (.int i) (.int j) S = .ok (.int (i + j)) S := rfl
theorem mod_ok (i : Int) {j : Int} (h : 0 < j) (S : Sto) : dMod (.int i) (.int j) S = .ok (.int (i % j)) S := by
  simp only [dIC, h, if_true]
theorem mOp_ok {f : D → D → Sto → Res D} {a b : Ed} {Γ : En} {S S1 S2 : Sto} {x y : D} (ha : a Γ S = .ok x S1) (hb : b Γ S1 = .ok y S2) : mOp f a b Γ S = f x y S2 := by
  simp only [mOp, ha, Res.bind_ok, hb]
theorem bInt_ok {a : Ed} {Γ : En} {S S1 : Sto} {i : Int} (ha : a Γ S = .ok (.int i) S1) : mBlt fInt (aCons a aNil) Γ S = .ok (.int i) S1 := by
  simp only [mBlt, aCons, aNil, ha, Res.bind_ok, fInt]
theorem bIntB_ok {a : Ed} {Γ : En} {S S1 : Sto} {b : Bool} (ha : a Γ S = .ok (.bl b) S1) : mBlt fInt (aCons a aNil) Γ S = .ok (.int (if b then 1 else 0)) S1 := by
  simp only [mBlt, aCons, aNil, ha, Res.bind_ok, fInt]
theorem pow_ok (i : Int) {j : Int} (h : CPow i j) (S : Sto) : dPow (.int i) (.int j) S = .ok (.int (i ^ j.toNat)) S := by
  simp only [dIC, h, if_true]
theorem ge_ok (i j : Int) (S : Sto) : dGe (.int i) (.int j) S = .ok (.bl (decide (i ≥ j))) S := rfl
theorem mul_b (i : Int) (b : Bool) (S : Sto) : dMul (.int i) (.int (if b then 1 else 0)) S = .ok (.int (i * (if b then 1 else 0))) S := by
  cases b
  · exact mul_ok _ (by decide) (by decide) S
  · exact mul_ok _ (by decide) (by decide) S
theorem pool_t1 {Γ : En} {S : Sto} {k y : Int} (hk0 : 0 ≤ k) (hk : k ≤ 3) (v1 : mVar 1 Γ S = .ok (.int k) S) (v3 : mVar 3 Γ S = .ok (.int y) S) : ∃ z, mOp dMod (mBlt fInt (aCons (mOp dMul (mOp (dAdd true) (mOp (dAdd true) (mOp (dAdd true) (mOp dMod (mBlt fInt (aCons (mVar 3) aNil)) (mC (.int 2147483629))) (mOp dMul (mOp dMul (mC (.int 7919)) (mVar 1)) (mVar 1))) (mOp dMul (mC (.int 31)) (mVar 1))) (mC (.int 17))) (mC (.int 48271))) aNil)) (mC (.int 2147483647)) Γ S = .ok (.int z) S := by
  have a1 := (mOp_ok (bInt_ok v3) (mC_ev (.int 2147483629) Γ S)).trans (mod_ok y (by omega) S)
  have a2 := (mOp_ok (mC_ev (.int 7919) Γ S) v1).trans (mul_ok _ (by omega) (by omega) S)
  have a3 := (mOp_ok a2 v1).trans (mul_ok _ (by omega) (by omega) S)
  have a4 := (mOp_ok a1 a3).trans (add_ii true _ _ S)
  have a5 := (mOp_ok (mC_ev (.int 31) Γ S) v1).trans (mul_ok _ (by omega) (by omega) S)
  have a6 := (mOp_ok a4 a5).trans (add_ii true _ _ S)
  have a7 := (mOp_ok a6 (mC_ev (.int 17) Γ S)).trans (add_ii true _ _ S)
  have a8 := (mOp_ok a7 (mC_ev (.int 48271) Γ S)).trans (mul_ok _ (by omega) (by omega) S)
  have a9 := (mOp_ok (bInt_ok a8) (mC_ev (.int 2147483647) Γ S)).trans (mod_ok _ (by omega) S)
  exact ⟨_, a9⟩
theorem pool_t2 {Γ : En} {S : Sto} {y z : Int} (v3 : mVar 3 Γ S = .ok (.int y) S) (v4 : mVar 4 Γ S = .ok (.int z) S) (hp : CPow 10 18) :
    ∃ a, mLst false (aCons (mOp dMul (mVar 3) (mBlt fInt (aCons (mOp dGe (mVar 3) (mOp dPow (mC (.int 10)) (mC (.int 18)))) aNil))) (aCons (mVar 4) aNil)) Γ S = .ok (.ref S.length) (S ++ [pl a z]) := by
  have e1 := (mOp_ok (Γ := Γ) (S := S) (mC_ev _ _ _) (mC_ev _ _ _)).trans (pow_ok 10 hp S)
  have e2 := (mOp_ok v3 e1).trans (ge_ok _ _ S)
  have e3 := (mOp_ok v3 (bIntB_ok e2)).trans (mul_b _ _ S)
  have e4 := e3
  generalize y * (if decide (y ≥ 10 ^ Int.toNat 18) = true then 1 else 0) = a at e4
  refine ⟨a, ?_⟩
  have e5 : aCons (mOp dMul (mVar 3) (mBlt fInt (aCons (mOp dGe (mVar 3) (mOp dPow (mC (.int 10)) (mC (.int 18)))) aNil))) (aCons (mVar 4) aNil) Γ S = .ok [.int a, .int z] S := by
    simp only [aCons, aNil] at e4 ⊢
    simp only [e4, v4, Res.bind_ok]
  simp only [mLst, e5, Res.bind_ok]
  rfl
theorem cpow18 : CPow 10 18 := ⟨by decide, by decide, by decide⟩
theorem ix_fz {S : Sto} {ns : List Int} {k : Nat} (h : k < ns.length) : dIxA (.fz (ns.map D.int)) (.int (k : Nat)) S = .ok (.int ns[k]) S := by
  have : (ns.map D.int)[k]? = some (.int ns[k]) := by rw [List.getElem?_map, List.getElem?_eq_getElem h]; rfl
  simp [dIxA, dDc, dIx, dSq, dL, atI_nat this]
theorem pool_ev (A : Ads) {ns : List Int} {k : Nat} (h1 : k ≤ 3) (S : Sto) :
    ∃ a b, m__law_pool A [.fz (ns.map D.int), .int (k : Nat)] S = .ok (.ref S.length) (S ++ [pl a b]) := by
  have e0 : sAsg (gN 2) (mC (.int 0)) (enter 5 [.fz (ns.map D.int), .int (k : Nat)]) S = .nx [some (.fz (ns.map D.int)), some (.int (k : Nat)), some (.int 0), none, none] S := rfl
  have s1 : ∃ x : Int, (sIf (mT (mOp dLt (mVar 1) (mBlt fLenA (aCons (mVar 0) aNil)))) (sAsg (gN 2) (mOp dIxA (mVar 0) (mVar 1))) sPass) [some (.fz (ns.map D.int)), some (.int (k : Nat)), some (.int 0), none, none] S = .nx [some (.fz (ns.map D.int)), some (.int (k : Nat)), some (.int x), none, none] S := by
    generalize hΓ : [some (D.fz (ns.map D.int)), some (.int (k : Nat)), some (.int 0), none, none] = Γ
    have v0 : mVar 0 Γ S = .ok (.fz (ns.map D.int)) S := by rw [← hΓ]; rfl
    have v1 : mVar 1 Γ S = .ok (.int (k : Nat)) S := by rw [← hΓ]; rfl
    have el : mBlt fLenA (aCons (mVar 0) aNil) Γ S = .ok (.int ns.length) S := by simp [mBlt, aCons, v0, fLenA, dDc, fLen, dSq, dL]
    have t := t_ev (op_ev (g := dLt) (R := .ok (.bl (decide ((k : Int) < (ns.length : Int)))) S) v1 el rfl)
    by_cases z : (k : Int) < (ns.length : Int)
    · have z' : k < ns.length := by omega
      refine ⟨ns[k], if_t (t.trans (by rw [decide_eq_true z])) ?_⟩
      rw [asg_ev (op_ev (g := dIxA) v0 v1 (ix_fz z')), ← hΓ]
      rfl
    · refine ⟨0, if_f (t.trans (by rw [decide_eq_false z])) ?_⟩
      rw [← hΓ]
      rfl
  obtain ⟨x, s1⟩ := s1
  have s2 : ∃ y : Int, sAsg (gN 3) (mBlt fMaxA (aCons (mBlt fInt (aCons (mVar 2) aNil)) (aCons (mBlt fInt (aCons (mOp dSub (mUn dNeg (mC (.int 1))) (mVar 2)) aNil)) aNil))) [some (.fz (ns.map D.int)), some (.int (k : Nat)), some (.int x), none, none] S = .nx [some (.fz (ns.map D.int)), some (.int (k : Nat)), some (.int x), some (.int y), none] S :=
    ⟨_, asg_ev (max2_ev (int_ev (i := x) rfl) (int_ev (i := -1 - x) rfl))⟩
  obtain ⟨y, s2⟩ := s2
  obtain ⟨z, s3⟩ := pool_t1 (Γ := [some (.fz (ns.map D.int)), some (D.int (k : Nat)), some (.int x), some (.int y), none]) (S := S) (k := (k : Int)) (y := y) (by omega) (by omega) rfl rfl
  obtain ⟨a, s4⟩ := pool_t2 (Γ := [some (.fz (ns.map D.int)), some (D.int (k : Nat)), some (.int x), some (.int y), some (.int z)]) (S := S) (y := y) (z := z) rfl rfl cpow18
  exact ⟨a, z, run_ev (seq_ev e0 (seq_ev s1 (seq_ev s2 (seq_ev (asg_ev s3) (ret_ev s4)))))⟩
def O1 : List D := [.non, .bl true, .bl false, .int 0, .int 1, .int 4, .int 1000, .int (-1), .str "", .str "x", .str "X", .str "abcde", .str "a1", .str "let", .str "block", .str "make", .str "none"]
def O2 : List D := [.tup [], .tup [.int 0, .int 0], .tup [.int 1, .int 0], .tup [.int 1, .int 4], .tup [.int 0, .int 1], .tup [.bl true, .int 0], .tup [.int 0, .bl false], .tup [.int 1000, .int 0], .lst [.int 1, .int 0], .tup [.int 1, .int 0, .int 0]]
def O3 : List D := [.tup [.str "1", .int 0], .dct [] []]
def O4 : List D := [.tup [.int 0, .int 0, .int 0, .int 0], .lst [.int 0, .int 0, .int 0, .int 0], .tup [.int 0, .int 0, .int 0], .tup [.int 0, .int 0, .int 0, .bl true], .tup [.str "drop", .tup [.int 1, .int 0]], .tup [.str "drop"]]
theorem odds_ok : (((O1 ++ O2) ++ O3) ++ O4).all (fun x => Sm true 3 x || Sm false 3 x) = true := by decide +kernel
theorem odd_ev (A : Ads) {S : Sto} {n : Nat} (p : Po S n) : ∃ x S' l, m__law_odd A [.ref n] S = .ok x S' ∧ Ch n S S' ∧ Sm l 3 x = true := by
  obtain ⟨x, S', e, c, hm⟩ := one_ev A p (xs := ((O1 ++ O2) ++ O3) ++ O4) (by simp [O1]) (by decide)
  have ok := List.all_eq_true.mp odds_ok x hm
  have fin : m__law_odd A [.ref n] S = .ok x S' := by
    unfold m__law_odd
    exact run_ev (seq_ev (asg_ev (d := .lst O1) rfl) (seq_ev (asg_ev (addl_ev (a := O1) (b := O2) rfl rfl (by decide))) (seq_ev (asg_ev (addl_ev (a := O1 ++ O2) (b := O3) rfl rfl (by decide))) (seq_ev (asg_ev (addl_ev (a := (O1 ++ O2) ++ O3) (b := O4) rfl rfl (by decide))) (ret_ev (call2 rfl rfl e))))))
  simp only [Bool.or_eq_true] at ok
  rcases ok with h | h
  · exact ⟨x, S', true, fin, c, h⟩
  · exact ⟨x, S', false, fin, c, h⟩
theorem add_tup {a b : List D} {S : Sto} (h : a.length + b.length ≤ 10000) : dAdd true (.tup a) (.tup b) S = .ok (.tup (a ++ b)) S := by
  have : a.length + b.length ≤ big := by unfold big; omega
  simp [dAdd, this]
theorem addt_ev {e e1 : Ed} {Γ : En} {S S1 S2 : Sto} {a b : List D} (h : e Γ S = .ok (.tup a) S1) (h1 : e1 Γ S1 = .ok (.tup b) S2) (hl : a.length + b.length ≤ 10000) : mOp (dAdd true) e e1 Γ S = .ok (.tup (a ++ b)) S2 := op_ev h h1 (add_tup hl)
theorem sm_up (l : Bool) : ∀ {k : Nat} {d : D}, Sm l k d = true → Sm l (k + 1) d = true
  | 0, d, h => by cases d <;> first | exact h | cases h | (rename_i ks vs; cases ks <;> cases vs <;> cases h)
  | k + 1, .tup ds, h => by
    rw [Sm, Bool.and_eq_true, List.all_eq_true] at h
    rw [Sm, Bool.and_eq_true, List.all_eq_true]
    exact ⟨h.1, fun d hd => sm_up l (h.2 d hd)⟩
  | k + 1, .lst ds, h => by
    rw [Sm, Bool.and_eq_true, Bool.and_eq_true, List.all_eq_true] at h
    rw [Sm, Bool.and_eq_true, Bool.and_eq_true, List.all_eq_true]
    exact ⟨h.1, h.2.1, fun d hd => sm_up l (h.2.2 d hd)⟩
  | k + 1, .non, h => h
  | k + 1, .bl _, h => h
  | k + 1, .int _, h => h
  | k + 1, .str _, h => h
  | k + 1, .fz _, h => by cases h
  | k + 1, .ref _, h => by cases h
  | k + 1, .opq _, h => by cases h
  | k + 1, .adr _, h => by cases h
  | k + 1, .dct [] [], h => h
  | k + 1, .dct (_ :: _) _, h => by cases h
  | k + 1, .dct [] (_ :: _), h => by cases h
theorem sm_tup {l : Bool} {k : Nat} {ds : List D} (hl : ds.length ≤ 6) (h : ∀ d ∈ ds, Sm l k d = true) : Sm l (k + 1) (.tup ds) = true := by
  rw [Sm, Bool.and_eq_true, decide_eq_true_eq, List.all_eq_true]
  exact ⟨hl, h⟩
theorem cut2_len (xs : List D) (at' : Nat) : (Fx.cutD xs none (some (at' : Int))).length + (Fx.cutD xs (some ((at' : Int) + 1)) none).length ≤ xs.length := by
  unfold Fx.cutD
  have e1 : HT.sIx xs.length xs.length (some (at' : Int)) = min at' xs.length := HT.sIx_nat _ _ _
  have e2 : HT.sIx xs.length 0 (some ((at' : Int) + 1)) = min (at' + 1) xs.length := by
    have : ((at' : Int) + 1) = ((at' + 1 : Nat) : Int) := by omega
    rw [this]; exact HT.sIx_nat _ _ _
  rw [e1, e2, HT.sIx_none, HT.sIx_none]
  simp only [List.length_take, List.length_drop]
  omega
theorem bent_ev (A : Ads) {S : Sto} {n : Nat} (p : Po S n) {ds : List D} (h0 : ds ≠ []) (hl : ds.length ≤ 5) (hb : ∀ d ∈ ds, Ba 3 d = true) : ∃ x S' l, m__law_bent A [.ref n, .tup ds] S = .ok x S' ∧ Ch n S S' ∧ Sm l 4 x = true := by
  have v0 : ∀ S, mVar 0 (enter 4 [.ref n, .tup ds]) S = .ok (.ref n) S := fun S => rfl
  obtain ⟨v, S1, e1, c1, hv0, hv1⟩ := take_call A (k := 4) p (v0 S) (e1 := mC (.int 4)) rfl (by decide) (by decide)
  have p1 := c1.po p
  generalize hΓ : (enter 4 [.ref n, .tup ds]).set 2 (some (.int v)) = Γ
  have x0 : ∀ S, mVar 0 Γ S = .ok (.ref n) S := fun S => by rw [← hΓ]; rfl
  have x1 : ∀ S, mVar 1 Γ S = .ok (.tup ds) S := fun S => by rw [← hΓ]; rfl
  have x2 : ∀ S, mVar 2 Γ S = .ok (.int v) S := fun S => by rw [← hΓ]; rfl
  have hsm : ∀ {l : Bool} {d : D}, d ∈ ds → Sm l 3 d = true := fun {l d} hd => ba_sm l (hb d hd)
  have t0 := t_ev (eqI_ev (n := false) (x2 S1) (e1 := mC (.int 0)) rfl)
  have t1 := t_ev (eqI_ev (n := false) (x2 S1) (e1 := mC (.int 1)) rfl)
  unfold m__law_bent
  by_cases h1 : v = 0
  · obtain ⟨x, S2, l, e2, c2, hx⟩ := odd_ev A p1
    refine ⟨.tup (ds ++ [x]), S2, l, run_ev (seq_ev (asg_ev e1) ?_), c1.trans c2, sm_tup (by simp; omega) fun d hd => ?_⟩
    · rw [hΓ]
      exact seq_rt (if_t (t0.trans (by rw [nb_f, decide_eq_true h1])) (ret_ev (addt_ev (x1 S1) (mtup_ev (ds := [x]) (acons (call1 (x0 S1) e2) rfl)) (by simp; omega))))
    · rcases List.mem_append.mp hd with hd | hd
      · exact hsm hd
      · simp at hd; rw [hd]; exact hx
  · have n0 := t0.trans (by rw [nb_f, decide_eq_false h1])
    by_cases h2 : v = 1
    · refine ⟨.tup (Fx.cutD ds none (some (-1))), S1, true, run_ev (seq_ev (asg_ev e1) ?_), c1, sm_tup (by have := cut_len ds none (some (-1)); omega) fun d hd => hsm (cut_mem hd)⟩
      rw [hΓ]
      exact ifn_ev n0 (seq_rt (if_t (t1.trans (by rw [nb_f, decide_eq_true h2])) (ret_ev (slt_ev (l := oNo) (u := oSo (mUn dNeg (mC (.int 1)))) (x1 S1) rfl rfl))))
    · have n1 := t1.trans (by rw [nb_f, decide_eq_false h2])
      have hlp : 0 < ds.length := List.length_pos_iff.mpr h0
      obtain ⟨a, S2, e2, c2, ha0, ha1⟩ := take_call A (k := (ds.length : Int)) p1 (x0 S1) (len_tup (x1 S1)) (by omega) (by omega)
      obtain ⟨at', rfl⟩ := nat_of ha0
      have p2 := c2.po p1
      obtain ⟨x, S3, l, e3, c3, hx⟩ := odd_ev A p2
      generalize hΔ : Γ.set 3 (some (.int (at' : Int))) = Δ
      have y0 : ∀ S, mVar 0 Δ S = .ok (.ref n) S := fun S => by rw [← hΔ, ← hΓ]; rfl
      have y1 : ∀ S, mVar 1 Δ S = .ok (.tup ds) S := fun S => by rw [← hΔ, ← hΓ]; rfl
      have y3 : ∀ S, mVar 3 Δ S = .ok (.int (at' : Int)) S := fun S => by rw [← hΔ, ← hΓ]; rfl
      have cl := cut2_len ds at'
      have s1 : mSl true (mVar 1) oNo (oSo (mVar 3)) Δ S2 = .ok (.tup (Fx.cutD ds none (some (at' : Int)))) S2 := slt_ev (y1 S2) rfl (by unfold oSo; rw [y3 S2]; rfl)
      have s2 : mSl true (mVar 1) (oSo (mOp (dAdd true) (mVar 3) (mC (.int 1)))) oNo Δ S3 = .ok (.tup (Fx.cutD ds (some ((at' : Int) + 1)) none)) S3 := slt_ev (y1 S3) (by unfold oSo; rw [addI_ev (y3 S3) (e1 := mC (.int 1)) rfl]; rfl) rfl
      refine ⟨.tup ((Fx.cutD ds none (some (at' : Int)) ++ [x]) ++ Fx.cutD ds (some ((at' : Int) + 1)) none), S3, l, run_ev (seq_ev (asg_ev e1) ?_), (c1.trans c2).trans c3, sm_tup (by simp; omega) fun d hd => ?_⟩
      · rw [hΓ]
        refine ifn_ev n0 (ifn_ev n1 (seq_ev (asg_ev e2) ?_))
        rw [hΔ]
        exact ret_ev (addt_ev (addt_ev s1 (mtup_ev (ds := [x]) (acons (call1 (y0 S2) e3) rfl)) (by simp; omega)) s2 (by simp; omega))
      · rcases List.mem_append.mp hd with hd | hd
        · rcases List.mem_append.mp hd with hd | hd
          · exact hsm (cut_mem hd)
          · simp at hd; rw [hd]; exact hx
        · exact hsm (cut_mem hd)
end K01
end

section
set_option Elab.async false
set_option linter.all false
set_option maxRecDepth 100000
set_option maxHeartbeats 1000000
namespace K01
open PySem PySem.Spec PyProof.Rows L2 Fx
variable [Nam]
/-! ## names of a deed -/
section
variable (A : Ads)
mutual
theorem eqv_self : ∀ e : PyData, e.canLay0 = true → PyData.eqv e e = true
  | .none, _ => by simp [PyData.eqv]
  | .bool b, _ => by simp [PyData.eqv]
  | .int i, _ => by simp [PyData.eqv]
  | .str x, _ => by simp [PyData.eqv]
  | .list xs, h => by rw [PyData.eqv]; exact eqvAll_self xs (by simpa [PyData.canLay0] using h)
  | .tuple xs, h => by rw [PyData.eqv]; exact eqvAll_self xs (by simpa [PyData.canLay0] using h)
  | .dict _, h => by simp [PyData.canLay0] at h
theorem eqvAll_self : ∀ xs : List PyData, PyData.canLayAll0 xs = true → PyData.eqvAll xs xs = true
  | [], _ => by simp [PyData.eqvAll]
  | x :: xs, h => by
    have h : x.canLay0 = true ∧ PyData.canLayAll0 xs = true := by simpa [PyData.canLayAll0] using h
    rw [PyData.eqvAll, eqv_self x h.1, eqvAll_self xs h.2]
    rfl
end
theorem ba_pys {k : Nat} : ∀ {ds : List D}, (∀ d ∈ ds, Ba k d = true) → ∃ es, toPys ds = some es ∧ PyData.canLayAll0 es = true ∧ PyData.depthAll es ≤ k
  | [], _ => ⟨[], rfl, by simp [PyData.canLayAll0], by simp [PyData.depthAll]⟩
  | d :: ds, hd => by
    obtain ⟨e, e1, e2, e3, _⟩ := ba_py (hd d (by simp))
    obtain ⟨es, f1, f2, f3⟩ := ba_pys fun x hx => hd x (List.mem_cons_of_mem _ hx)
    exact ⟨e :: es, by simp [toPys, e1, f1], by simp [PyData.canLayAll0, e2, f2], by simp only [PyData.depthAll]; omega⟩
/-- a list of base values is itself -/
theorem eq_lst {xs : List D} {k : Nat} (hk : k ≤ 20) (h : ∀ d ∈ xs, Ba k d = true) (n : Bool) (S : Sto) : dEqA n (.lst xs) (.lst xs) S = .ok (.bl (nb n true)) S := by
  unfold dEqA
  cases xs with
  | nil => rfl
  | cons x xs =>
    have : eqE S (.lst (x :: xs)) (.lst (x :: xs)) = none := by simp [eqE, seqK]
    rw [this]
    dsimp only
    obtain ⟨es, e1, e2, e3⟩ := ba_pys h
    unfold dEqG
    have et : toPyS S (.lst (x :: xs)) = some (.list es) := by simp [toPyS, toPy, e1]
    rw [et]
    dsimp only
    rw [if_pos ⟨by simp [SeqAt.shaped, PyData.canLay0, e2, PyData.depth]; omega, by simp [SeqAt.shaped, PyData.canLay0, e2, PyData.depth]; omega⟩]
    rw [eqv_self _ (by simpa [PyData.canLay0] using e2)]
    rfl
/-- a stamp, as a pair -/
def Stp (x : D) : Prop := ∃ t k : Int, x = .tup [.int t, .int k] ∧ 1 ≤ t ∧ t ≤ 999 ∧ 0 ≤ k ∧ k ≤ 3
def kyD (t k : Int) : NestedKey := .tup [.num t, .num k]
theorem keyT_stp (t k : Int) : keyT (.tup [.int t, .int k]) = some (kyD t k) := by
  have e : keyN (.tup [.int t, .int k]) = some (kyD t k) := by simp [keyN, keysN, kyD]
  unfold keyT
  simp only [e]
  rfl
theorem put_keys (kvs : List (D × D)) (kd : D) (q : NestedKey) (v v' : D) {kvs' : List (D × D)} (h : kvs.map (·.1) = kvs'.map (·.1)) : (putKD kvs kd q v).map (·.1) = (putKD kvs' kd q v').map (·.1) := by
  have at' : ∀ {l l' : List (D × D)}, l.map (·.1) = l'.map (·.1) → (atD l q).isSome = (atD l' q).isSome := fun {l l'} h => by
    induction l generalizing l' with
    | nil => cases l' with
      | nil => rfl
      | cons _ _ => cases h
    | cons x l ih => cases l' with
      | nil => cases h
      | cons y l' =>
        rw [List.map_cons, List.map_cons, List.cons.injEq] at h
        have := ih h.2
        unfold atD at this ⊢
        rw [List.find?_cons, List.find?_cons, h.1]
        split
        · rfl
        · exact this
  unfold putKD
  rw [at' h]
  split
  · have mp : ∀ {l l' : List (D × D)}, l.map (·.1) = l'.map (·.1) → (l.map fun q' => if keyT q'.1 = some q then (q'.1, v) else q').map (·.1) = (l'.map fun q' => if keyT q'.1 = some q then (q'.1, v') else q').map (·.1) := fun {l l'} h => by
      have one : ∀ (l : List (D × D)) (v : D), (l.map fun q' => if keyT q'.1 = some q then (q'.1, v) else q').map (·.1) = l.map (·.1) := fun l v => by
        rw [List.map_map]
        refine List.map_congr_left fun x _ => ?_
        show (if keyT x.1 = some q then (x.1, v) else x).1 = x.1
        split <;> rfl
      rw [one, one, h]
    exact mp h
  · rw [List.map_append, List.map_append, h]
    rfl
/-- what the stamps come to, as keys -/
def foldK (v : D) (acc : List (D × D)) (xs : List D) : List (D × D) := xs.foldl (fun acc x => putKD acc x ((keyT x).getD .none) v) acc
theorem fold_keys (v v' : D) : ∀ (xs : List D) {acc acc' : List (D × D)}, acc.map (·.1) = acc'.map (·.1) → (foldK v acc xs).map (·.1) = (foldK v' acc' xs).map (·.1)
  | [], _, _, h => h
  | x :: xs, _, _, h => fold_keys v v' xs (put_keys _ _ _ _ _ h)
theorem put_mem {kvs : List (D × D)} {kd : D} {q : NestedKey} {v : D} {x : D} (h : x ∈ (putKD kvs kd q v).map (·.1)) : x ∈ kvs.map (·.1) ∨ x = kd := by
  unfold putKD at h
  split at h
  · left
    rw [List.map_map] at h
    obtain ⟨y, hy, e⟩ := List.mem_map.mp h
    refine List.mem_map.mpr ⟨y, hy, ?_⟩
    rw [← e]
    show y.1 = (if keyT y.1 = some q then (y.1, v) else y).1
    split <;> rfl
  · rw [List.map_append] at h
    rcases List.mem_append.mp h with h | h
    · exact .inl h
    · simp at h
      exact .inr h
theorem fold_mem {v : D} : ∀ {xs : List D} {acc : List (D × D)} {x : D}, x ∈ (foldK v acc xs).map (·.1) → x ∈ acc.map (·.1) ∨ x ∈ xs
  | [], acc, x, h => .inl h
  | y :: xs, acc, x, h => by
    rcases fold_mem (xs := xs) h with h | h
    · rcases put_mem h with h | h
      · exact .inl h
      · exact .inr (by rw [h]; exact List.mem_cons_self)
    · exact .inr (List.mem_cons_of_mem _ h)
theorem put_len (kvs : List (D × D)) (kd : D) (q : NestedKey) (v : D) : (putKD kvs kd q v).length ≤ kvs.length + 1 := by
  unfold putKD
  split
  · simp
  · simp
/-- both give the same sorted keys -/
def SrtK (xs : List D) : List D := sortD ((foldK .non [] xs).map (·.1))
theorem SrtK_mem {xs : List D} (h : ∀ x ∈ xs, Stp x) : ∀ x ∈ SrtK xs, Stp x := fun x hx => by
  have := (isortO_perm ltD _).mem_iff.mp hx
  rcases fold_mem this with h' | h'
  · cases h'
  · exact h x h'
theorem stp_ba {x : D} (h : Stp x) : Ba 1 x = true := by
  obtain ⟨t, k, rfl, h1, h2, h3, h4⟩ := h
  simp [Ba]
  omega
theorem sorted_ev {v : D} {xs : List D} (h : ∀ x ∈ xs, Stp x) {e : Ed} {Γ : En} {S S1 : Sto} {q : Nat} (he : e Γ S = .ok (.ref q) S1) (hq : S1[q]? = some (.dct (foldK v [] xs))) : mBlt fSorted (aCons e aNil) Γ S = .ok (.lst (SrtK xs)) S1 := by
  have ek : (foldK v [] xs).map (·.1) = (foldK .non [] xs).map (·.1) := fold_keys v .non xs rfl
  have pk : ((foldK .non [] xs).map (·.1)).all (fun x => (pkD x).isSome) = true := by
    rw [List.all_eq_true]
    intro x hx
    rcases fold_mem hx with h' | h'
    · cases h'
    · obtain ⟨t, k, rfl, _⟩ := h x h'
      rfl
  have sr : srcL S1 (.ref q) = some ((foldK .non [] xs).map (·.1)) := by simp [srcL, dDc, hq, ek]
  unfold mBlt
  rw [acons he rfl, Res.bind_ok]
  unfold fSorted
  simp only [sr, pk, if_true]
  rfl
end
end K01
end

section
set_option Elab.async false
set_option linter.all false
set_option maxRecDepth 100000
set_option maxHeartbeats 1000000
namespace K01
open PySem PySem.Spec PyProof.Rows L2 Fx
variable [Nam]
/-! ## the names of a deed, both ways -/
theorem dcL_ev {s : Sr} {tg : Td} {Γ : En} {cnd : Bd} {ke ve : Ed} {S : Sto} {xs : List D} (hs : Its s S xs) (v : D) (hx : ∀ x ∈ xs, Stp x)
    (h : ∀ x ∈ xs, ∃ Γ1, tg x Γ = some Γ1 ∧ cnd Γ1 S = .ok true S ∧ ke Γ1 S = .ok x S ∧ ve Γ1 S = .ok v S) (hb : xs.length < big) :
    ∀ (n i : Nat) (acc : List (D × D)), i ≤ xs.length → n = xs.length - i + 1 → acc.length ≤ i → dcL s tg Γ cnd ke ve n i acc S = .ok (foldK v acc (xs.drop i)) S
  | 0, i, acc, hi, hn, ha => by omega
  | n + 1, i, acc, hi, hn, ha => by
    unfold dcL
    rw [hs.it i]
    by_cases hl : i < xs.length
    · rw [List.getElem?_eq_getElem hl]
      obtain ⟨Γ1, e1, e2, e3, e4⟩ := h xs[i] (List.getElem_mem hl)
      have ed : xs.drop i = xs[i] :: xs.drop (i + 1) := List.drop_eq_getElem_cons hl
      obtain ⟨t, k, ex, _⟩ := hx xs[i] (List.getElem_mem hl)
      have ek : keyT xs[i] = some (kyD t k) := by rw [ex]; exact keyT_stp t k
      have hz : acc.length < big := by omega
      simp only [e1, e2, e3, e4, ek, hz, if_true]
      have hp := put_len acc xs[i] (kyD t k) v
      rw [dcL_ev hs v hx h hb n (i + 1) _ (by omega) (by omega) (by omega), ed]
      show _ = Res.ok (foldK v (putKD acc xs[i] ((keyT xs[i]).getD .none) v) _) S
      rw [ek]
      rfl
    · have : xs[i]? = none := List.getElem?_eq_none (by omega)
      rw [this, List.drop_eq_nil_of_le (by omega)]
      rfl
theorem last_at (S : Sto) (x : O) : (S ++ [x])[S.length]? = some x := by rw [List.getElem?_append_right (Nat.le_refl _), Nat.sub_self]; rfl
section
variable (A : Ads) (S : Sto)
theorem order_ev {xs : List D} (h : ∀ x ∈ xs, Stp x) (hl : xs.length ≤ 10) : m_in_stamp_order A [.lst xs] S = .ok (.lst (SrtK xs)) (S ++ [.dct (foldK (.bl true) [] xs)]) := by
  have hb : xs.length < big := by unfold big; omega
  have e1 : mDc [2, 3] (iAny (mVar 0)) (gT [2, 3]) bYes (mTup (aCons (mBlt fInt (aCons (mVar 2) aNil)) (aCons (mBlt fInt (aCons (mVar 3) aNil)) aNil))) (mC (.bl true)) (enter 4 [.lst xs]) S = .ok (.ref S.length) (S ++ [.dct (foldK (.bl true) [] xs)]) := by
    unfold mDc
    rw [any_lst (xs := xs) (a := mVar 0) rfl, Res.bind_ok, (its_seq (d := .lst xs) (S := S) (xs := xs) rfl).ln, dcL_ev (its_seq rfl) (.bl true) h (fun x hx => by
      obtain ⟨t, k, rfl, _⟩ := h x hx
      exact ⟨_, rfl, rfl, mtup_ev (acons (int_ev (i := t) rfl) (acons (int_ev (i := k) rfl) rfl)), rfl⟩) hb _ 0 [] (Nat.zero_le _) (by omega) (Nat.zero_le _)]
    rfl
  unfold m_in_stamp_order
  exact run_ev (seq_ev (asg_ev e1) (ret_ev (sorted_ev (v := .bl true) h rfl (last_at S _))))
theorem lstamps_ev {xs : List D} (h : ∀ x ∈ xs, Stp x) (hl : xs.length ≤ 10) : m__law_stamps A [.lst xs] S = .ok (.lst (SrtK xs)) (S ++ [.dct (foldK (.int 1) [] xs)]) := by
  have hb : xs.length < big := by unfold big; omega
  have e1 := lc_all (f := true) (vs := [1]) (j := 1) (elt := mTup (aCons (mTup (aCons (mBlt fInt (aCons (mOp dIxA (mVar 1) (mC (.int 0))) aNil)) (aCons (mBlt fInt (aCons (mOp dIxA (mVar 1) (mC (.int 1))) aNil)) aNil))) (aCons (mC (.int 1)) aNil))) (Γ := enter 2 [.lst xs]) (S0 := S) (S := S) (any_lst (xs := xs) (a := mVar 0) rfl) (its_seq rfl) (fun x => .tup [x, .int 1]) (fun x hx => by
    obtain ⟨t, k, rfl, _⟩ := h x hx
    have v1 : mVar 1 ((wipeE (enter 2 [.lst xs]) [1]).set 1 (some (.tup [.int t, .int k]))) S = .ok (.tup [.int t, .int k]) S := rfl
    exact mtup_ev (acons (mtup_ev (acons (int_ev (ixt_ev 0 v1 rfl)) (acons (int_ev (ixt_ev 1 v1 rfl)) rfl))) (acons rfl rfl))) hb
  have ek : ∀ xs : List D, (∀ x ∈ xs, Stp x) → Fx.kvsOf (xs.map fun x => D.tup [x, .int 1]) = some (xs.map fun x => (x, (keyT x).getD .none, D.int 1)) := by
    intro xs
    induction xs with
    | nil => exact fun _ => rfl
    | cons x xs ih =>
      intro h
      obtain ⟨t, k, rfl, _⟩ := h x (by simp)
      have := ih fun y hy => h y (List.mem_cons_of_mem _ hy)
      simp [Fx.kvsOf, Fx.kvOf, keyT_stp, this]
  have em : ∀ (xs : List D) (acc : List (D × D)), mergeKD acc (xs.map fun x => (x, (keyT x).getD .none, D.int 1)) = foldK (.int 1) acc xs := by
    intro xs
    induction xs with
    | nil => exact fun _ => rfl
    | cons x xs ih => exact fun acc => ih _
  have e2 : mBlt fDictP (aCons (mLc true [1] (iAny (mVar 0)) (gN 1) bYes (mTup (aCons (mTup (aCons (mBlt fInt (aCons (mOp dIxA (mVar 1) (mC (.int 0))) aNil)) (aCons (mBlt fInt (aCons (mOp dIxA (mVar 1) (mC (.int 1))) aNil)) aNil))) (aCons (mC (.int 1)) aNil)))) aNil) (enter 2 [.lst xs]) S = .ok (.ref S.length) (S ++ [.dct (foldK (.int 1) [] xs)]) := by
    refine (show mBlt fDictP _ _ S = (aCons _ aNil _ S).bind fDictP from rfl).trans ?_
    rw [acons e1 rfl, Res.bind_ok]
    unfold fDictP
    have : (dL S (.lst (xs.map fun x => D.tup [x, .int 1]))).bind Fx.kvsOf = some (xs.map fun x => (x, (keyT x).getD .none, D.int 1)) := ek xs h
    simp only [this, em]
    rfl
  unfold m__law_stamps
  exact run_ev (ret_ev (sorted_ev (v := .int 1) h e2 (last_at S _)))
/-- not None, not the root -/
theorem keep_ev {x : D} (h : OkP x) {Γ : En} {e r : Ed} (he : e Γ S = .ok x S) (hr : r Γ S = .ok (.tup [.int 0, .int 0]) S) : mAnd (mT (mOp (dIs true) e (mC .non))) (mT (mOp (dEqA true) e r)) Γ S = .ok (stampD x) S := by
  have e1 : mT (mOp (dIs true) e (mC .non)) Γ S = .ok (!isNon x) S := t_ev (op_ev he rfl rfl)
  cases x with
  | non => exact tand_ev (x := false) (y := false) e1 fun z => nomatch z
  | tup ds =>
    have ho := h.1
    simp only [Fx.isNon, Bool.false_or] at ho
    refine tand_ev (x := true) (y := stampD (.tup ds)) e1 fun _ => ?_
    cases hs : stampD (.tup ds) with
    | true =>
      obtain ⟨t, k, eq, h1, _⟩ := stamp_of hs
      cases eq
      refine (t_ev (op_ev he hr (R := .ok (.bl true) S) ?_))
      have ht : (t == 0) = false := by rw [beq_eq_false_iff_ne]; omega
      simp [dEqA, eqE, seqK, dEqG, toPyS, toPy, toPys, SeqAt.shaped, PyData.eqv, PyData.eqvAll, PyData.canLay0, PyData.canLayAll0, PyData.depth, PyData.depthAll, ht]
    | false =>
      rw [placeD, hs, Bool.false_or] at ho
      have : ds = [.int 0, .int 0] := by
        unfold rootD pairD at ho
        split at ho
        · rename_i x y he
          cases he
          rw [Bool.and_eq_true] at ho
          cases x <;> simp [numD] at ho
          cases y <;> simp [numD] at ho
          rename_i i j
          have hi : i = 0 := by omega
          have hj : j = 0 := by omega
          rw [hi, hj]
        · cases ho
      subst this
      refine (t_ev (op_ev he hr (R := .ok (.bl false) S) ?_))
      simp [dEqA, eqE, seqK, dEqG, toPyS, toPy, toPys, SeqAt.shaped, PyData.eqv, PyData.eqvAll, PyData.canLay0, PyData.canLayAll0, PyData.depth, PyData.depthAll]
  | _ => have := h.1; simp [Fx.isNon, placeD, stampD, rootD, pairD] at this
def isUse : D → Bool
  | .str s => decide (s = "use")
  | _ => false
/-- the names that count -/
def NL (w : Str) (r : List D) : List D := if w = "make" then (match r with | [k, u, _, v] => [u, if isUse k = true then v else .non] | _ => []) else if w = "move" then r.take 2 else if w = "point" then r.take 2 else r.take 1 ++ [.non]
theorem plc_of {x : D} (h : placeD x = true) (b : Ba 1 x = true) : OkP x := Plc.okP ⟨h, b⟩
theorem use_ok {v : D} (h : contD "use" v = true) (b : Ba 1 v = true) : OkP v := by
  have h1 : ¬ ("use" : Str) = "let" := by decide +kernel
  rw [contD, if_neg h1, if_pos rfl] at h
  exact ⟨h, b⟩
/-- bodies by their words -/
theorem GB.cases {w : Str} {r : List D} (gb : GB w r) :
    (w = "make" ∧ ∃ (k : Str) (u n v : D), r = [.str k, u, n, v] ∧ k ∈ TXT ∧ OkP u ∧ (k = "use" → OkP v)) ∨
    (w = "move" ∧ ∃ t u n : D, r = [t, u, n] ∧ OkP t ∧ OkP u) ∨
    (w = "point" ∧ ∃ t v : D, r = [t, v] ∧ OkP t ∧ OkP v) ∨
    (w ≠ "make" ∧ w ≠ "move" ∧ w ≠ "point" ∧ ∃ (t : D) (r' : List D), r = t :: r' ∧ OkP t) := by
  have ok := gb.ok
  have ba := gb.ba
  by_cases h1 : w = "make"
  · left
    obtain ⟨k, u, n, v, rfl, hu, hk⟩ := make_kind gb h1
    rw [bodyW, if_pos h1] at ok
    simp only [makeD, kcD, Bool.and_eq_true] at ok
    exact ⟨h1, k, u, n, v, rfl, hk, plc_of hu (ba u (by simp)), fun z => by rw [z] at ok; exact use_ok ok.2 (ba v (by simp))⟩
  · right
    rw [bodyW, if_neg h1] at ok
    by_cases h2 : w = "move"
    · left
      rw [if_pos h2] at ok
      unfold moveD at ok
      split at ok
      · rename_i t u n
        rw [Bool.and_eq_true, Bool.and_eq_true] at ok
        exact ⟨h2, t, u, n, rfl, plc_of ok.1 (ba t (by simp)), plc_of ok.2.1 (ba u (by simp))⟩
      · cases ok
    · right
      rw [if_neg h2] at ok
      by_cases h3 : w = "point"
      · left
        have a1 : ¬ w = "drop" := fun z => by rw [h3] at z; exact absurd z (by decide +kernel)
        have a2 : memS w W3 = true := by rw [h3]; decide +kernel
        have a3 : kindOf w = "use" := by rw [h3]; decide +kernel
        rw [if_neg a1, if_pos a2] at ok
        unfold setsD at ok
        split at ok
        · rename_i t v
          rw [Bool.and_eq_true, a3] at ok
          exact ⟨h3, t, v, rfl, plc_of ok.1 (ba t (by simp)), use_ok ok.2 (ba v (by simp))⟩
        · cases ok
      · right
        refine ⟨h1, h2, h3, ?_⟩
        by_cases h4 : w = "drop"
        · rw [if_pos h4] at ok
          unfold dropD at ok
          split at ok
          · rename_i t
            exact ⟨t, [], rfl, plc_of ok (ba t (by simp))⟩
          · cases ok
        · rw [if_neg h4] at ok
          by_cases h5 : memS w W3 = true
          · rw [if_pos h5] at ok
            unfold setsD at ok
            split at ok
            · rename_i t v
              rw [Bool.and_eq_true] at ok
              exact ⟨t, [v], rfl, plc_of ok.1 (ba t (by simp))⟩
            · cases ok
          · rw [if_neg h5, Bool.and_eq_true] at ok
            replace ok := ok.2
            unfold markD at ok
            split at ok
            · rename_i t
              exact ⟨t, [], rfl, plc_of (by rw [placeD, ok]; rfl) (ba t (by simp))⟩
            · cases ok
theorem NL_ok {w : Str} {r : List D} (gb : GB w r) : (∀ x ∈ NL w r, OkP x) ∧ (NL w r).length ≤ 2 := by
  have hn : OkP .non := ⟨rfl, rfl⟩
  rcases gb.cases with ⟨h1, k, u, n, v, rfl, hk, hu, hv⟩ | ⟨h1, t, u, n, rfl, ht, hu⟩ | ⟨h1, t, v, rfl, ht, hv⟩ | ⟨h1, h2, h3, t, r', rfl, ht⟩
  · unfold NL
    rw [if_pos h1]
    refine ⟨fun x hx => ?_, by simp⟩
    simp at hx
    rcases hx with rfl | rfl
    · exact hu
    · split
      · rename_i h; exact hv (by simpa [isUse] using h)
      · exact hn
  · have a : ¬ w = "make" := fun z => by rw [h1] at z; exact absurd z (by decide +kernel)
    unfold NL
    rw [if_neg a, if_pos h1]
    refine ⟨fun x hx => ?_, by simp⟩
    simp at hx
    rcases hx with rfl | rfl <;> assumption
  · have a : ¬ w = "make" := fun z => by rw [h1] at z; exact absurd z (by decide +kernel)
    have b : ¬ w = "move" := fun z => by rw [h1] at z; exact absurd z (by decide +kernel)
    unfold NL
    rw [if_neg a, if_neg b, if_pos h1]
    refine ⟨fun x hx => ?_, by simp⟩
    simp at hx
    rcases hx with rfl | rfl <;> assumption
  · unfold NL
    rw [if_neg h1, if_neg h2, if_neg h3]
    refine ⟨fun x hx => ?_, by simp⟩
    simp at hx
    rcases hx with rfl | rfl
    · exact ht
    · exact hn
end
end K01
end

section
set_option Elab.async false
set_option linter.all false
set_option maxRecDepth 100000
set_option maxHeartbeats 1000000
namespace K01
open PySem PySem.Spec PyProof.Rows L2 Fx
variable [Nam]
/-! ## a good deed passes -/
theorem flt_non (l : List D) : (l ++ [D.non]).filter stampD = l.filter stampD := by
  rw [List.filter_append]
  simp [stampD, pairD]
section
variable (A : Ads) (S : Sto)
theorem use_ev {k : Str} (hk : k ∈ TXT) {Γ : En} {e e4 : Ed} {v : D} (h : e Γ S = .ok (.str k) S) (h4 : e4 Γ S = .ok v S) : mIf (mT (mOp (dEqA false) e (mC (.str ("use" : Str))))) e4 (mC .non) Γ S = .ok (if isUse (.str k) = true then v else .non) S := by
  unfold mIf
  rw [t_ev (eqS_ev h rfl (txt_str hk)), Res.bind_ok, nb_f]
  show (match decide (k = "use") with | true => _ | false => _) = Res.ok (if decide (k = "use") = true then v else .non) S
  cases decide (k = "use") with
  | true => exact h4
  | false => rfl
theorem names_in_ev {w : Str} {r : List D} (gb : GB w r) : ∃ P, m_names_in A [.tup (.str w :: r)] S = .ok (.lst P) S ∧ P = NL w r := by
  have v0 : mVar 0 (enter 1 [.tup (.str w :: r)]) S = .ok (.tup (.str w :: r)) S := rfl
  have q : ∀ c : Str, PyData.strOk c = true → mT (mOp (dEqA false) (mOp dIxA (mVar 0) (mC (.int 0))) (mC (.str c))) (enter 1 [.tup (.str w :: r)]) S = .ok (decide (w = c)) S := fun c hc => t_ev (eqS_ev (ixt_ev 0 v0 rfl) rfl (txt_str gb.wt) hc)
  have qm := q "make" (by decide +kernel)
  have qv := q "move" (by decide +kernel)
  have qp := q "point" (by decide +kernel)
  refine ⟨NL w r, ?_, rfl⟩
  unfold m_names_in
  rcases gb.cases with ⟨h1, k, u, n, v, rfl, hk, hu, hv⟩ | ⟨h1, t, u, n, rfl, ht, hu⟩ | ⟨h1, t, v, rfl, ht, hv⟩ | ⟨h1, h2, h3, t, r', rfl, ht⟩
  · unfold NL
    rw [if_pos h1]
    exact run_ev (seq_rt (if_t (qm.trans (by rw [decide_eq_true h1])) (ret_ev (mlst_ev (acons (ixt_ev 2 v0 rfl) (acons (use_ev S hk (ixt_ev 1 v0 rfl) (ixt_ev 4 v0 rfl)) rfl))))))
  · have a : ¬ w = "make" := fun z => by rw [h1] at z; exact absurd z (by decide +kernel)
    unfold NL
    rw [if_neg a, if_pos h1]
    exact run_ev (ifn_ev (qm.trans (by rw [decide_eq_false a])) (seq_rt (if_t (qv.trans (by rw [decide_eq_true h1])) (ret_ev (mlst_ev (acons (ixt_ev 1 v0 rfl) (acons (ixt_ev 2 v0 rfl) rfl)))))))
  · have a : ¬ w = "make" := fun z => by rw [h1] at z; exact absurd z (by decide +kernel)
    have b : ¬ w = "move" := fun z => by rw [h1] at z; exact absurd z (by decide +kernel)
    unfold NL
    rw [if_neg a, if_neg b, if_pos h1]
    refine run_ev (ifn_ev (qm.trans (by rw [decide_eq_false a])) (ifn_ev (qv.trans (by rw [decide_eq_false b])) (ret_ev (mlst_ev (acons (ixt_ev 1 v0 rfl) (acons (d := v) ?_ rfl))))))
    unfold mIf
    rw [qp, decide_eq_true h1]
    exact ixt_ev 2 v0 rfl
  · unfold NL
    rw [if_neg h1, if_neg h2, if_neg h3]
    refine run_ev (ifn_ev (qm.trans (by rw [decide_eq_false h1])) (ifn_ev (qv.trans (by rw [decide_eq_false h2])) (ret_ev (mlst_ev (ds := [t, .non]) (acons (ixt_ev 1 v0 rfl) (acons (d := .non) ?_ rfl))))))
    unfold mIf
    rw [qp, decide_eq_false h3]
    rfl
theorem okp_stp {x : D} (h : stampD x = true) : Stp x := by
  obtain ⟨t, k, e, h1⟩ := stamp_of h
  exact ⟨t, k, e, h1⟩
theorem flt_stp (l : List D) : ∀ x ∈ l.filter stampD, Stp x := fun x hx => okp_stp (List.mem_filter.mp hx).2
theorem mem2 (x a b : Str) : memS x [a, b] = (decide (x = a) || decide (x = b)) := by
  simp only [memS, List.any_cons, List.any_nil, Bool.or_false, eq_comm (a := x)]
  rfl
/-- the law's own list -/
theorem lnames_ev {s0 s1 : D} {w : Str} {r : List D} (gb : GB w r) : m__law_names A [.tup [s0, s1, .tup (.str w :: r)]] S = .ok (.lst (SrtK ((NL w r).filter stampD))) (S ++ [.dct (foldK (.int 1) [] ((NL w r).filter stampD))]) := by
  have v0 : mVar 0 (enter 4 [.tup [s0, s1, .tup (.str w :: r)]]) S = .ok (.tup [s0, s1, .tup (.str w :: r)]) S := rfl
  have e1 : mOp dIxA (mVar 0) (mC (.int 2)) (enter 4 [.tup [s0, s1, .tup (.str w :: r)]]) S = .ok (.tup (.str w :: r)) S := ixt_ev 2 v0 rfl
  generalize hΓ : (enter 4 [.tup [s0, s1, .tup (.str w :: r)]]).set 1 (some (.tup (.str w :: r))) = Γ
  have v1 : mVar 1 Γ S = .ok (.tup (.str w :: r)) S := by rw [← hΓ]; rfl
  have ow := txt_str gb.wt
  have qn : mT (mOp (dEqA true) (mOp dIxA (mVar 1) (mC (.int 0))) (mC (.str ("make" : Str)))) Γ S = .ok (!decide (w = "make")) S := t_ev (eqS_ev (ixt_ev 0 v1 rfl) rfl ow)
  -- from the list of names on
  have fin : ∀ (L0 L : List D), (∀ x ∈ L, OkP x) → L.filter stampD = (NL w r).filter stampD → L.length ≤ 2 → ∀ {Θ : En}, (mVar 2 Θ S = .ok (.lst L) S) → (∀ x, mVar 3 ((wipeE Θ [3]).set 3 (some x)) S = .ok x S) →
      sRet (mCall 1 (m__law_stamps A) (aCons (mLc true [3] (iAny (mVar 2)) (gN 3) (mAnd (mT (mOp (dIs true) (mVar 3) (mC .non))) (mT (mOp (dEqA true) (mVar 3) (mTup (aCons (mC (.int 0)) (aCons (mC (.int 0)) aNil)))))) (mVar 3)) aNil)) Θ S = .rt (.lst (SrtK ((NL w r).filter stampD))) (S ++ [.dct (foldK (.int 1) [] ((NL w r).filter stampD))]) := by
    intro L0 L hL eL lL Θ w2 w3
    have e := lc_ev (f := true) (vs := [3]) (j := 3) (cnd := mAnd (mT (mOp (dIs true) (mVar 3) (mC .non))) (mT (mOp (dEqA true) (mVar 3) (mTup (aCons (mC (.int 0)) (aCons (mC (.int 0)) aNil)))))) (elt := mVar 3) (any_lst w2) (its_seq rfl) stampD id (fun x hx => ⟨keep_ev S (hL x hx) (w3 x) rfl, fun _ => w3 x⟩) (by unfold big; omega)
    rw [List.map_id, eL] at e
    have := lstamps_ev A S (flt_stp (NL w r)) (by rw [← eL]; exact Nat.le_trans (List.length_filter_le _ _) (by omega))
    exact ret_ev (call1 e this)
  have okL := NL_ok gb
  have qin : mT (mOp (dInA false) (mOp dIxA (mVar 1) (mC (.int 0))) (mLst true (strA ["move", "point"]))) = mT (mOp (dInA false) (mOp dIxA (mVar 1) (mC (.int 0))) (mLst true (strA ["move", "point"]))) := rfl
  unfold m__law_names
  refine run_ev (seq_ev (asg_ev e1) ?_)
  rw [hΓ]
  rcases gb.cases with ⟨h1, k, u, n, v, rfl, hk, hu, hv⟩ | ⟨h1, t, u, n, rfl, ht, hu⟩ | ⟨h1, t, v, rfl, ht, hv⟩ | ⟨h1, h2, h3, t, r', rfl, ht⟩
  · have a2 : ¬ w = "move" := fun z => by rw [h1] at z; exact absurd z (by decide +kernel)
    have a3 : ¬ w = "point" := fun z => by rw [h1] at z; exact absurd z (by decide +kernel)
    have eN : NL w [.str k, u, n, v] = [u, if isUse (.str k) = true then v else .non] := by unfold NL; rw [if_pos h1]
    have e2 : mIf (mT (mOp (dEqA true) (mOp dIxA (mVar 1) (mC (.int 0))) (mC (.str ("make" : Str))))) (mLst true (aCons (mOp dIxA (mVar 1) (mC (.int 1))) aNil)) (mLst true (aCons (mOp dIxA (mVar 1) (mC (.int 2))) (aCons (mIf (mT (mOp (dEqA false) (mOp dIxA (mVar 1) (mC (.int 1))) (mC (.str ("use" : Str))))) (mOp dIxA (mVar 1) (mC (.int 4))) (mC .non)) aNil))) Γ S = .ok (.lst (NL w [.str k, u, n, v])) S := by
      unfold mIf
      rw [qn, decide_eq_true h1, eN]
      exact mlst_ev (acons (ixt_ev 2 v1 rfl) (acons (use_ev S hk (ixt_ev 1 v1 rfl) (ixt_ev 4 v1 rfl)) rfl))
    refine seq_ev (asg_ev e2) ?_
    generalize hΔ : Γ.set 2 (some (.lst (NL w [.str k, u, n, v]))) = Δ
    have y1 : mVar 1 Δ S = .ok (.tup [.str w, .str k, u, n, v]) S := by rw [← hΔ, ← hΓ]; rfl
    have tq : mT (mOp (dInA false) (mOp dIxA (mVar 1) (mC (.int 0))) (mLst true (strA ["move", "point"]))) Δ S = .ok false S := (t_ev (op_ev (ixt_ev 0 y1 rfl) (strL_ev ["move", "point"]) (in_lst S w _))).trans (by rw [mem2, decide_eq_false a2, decide_eq_false a3]; rfl)
    exact ifn_ev tq (fin [] _ okL.1 rfl okL.2 (by rw [← hΔ, ← hΓ]; rfl) (fun x => by rw [← hΔ, ← hΓ]; rfl))
  · have a : ¬ w = "make" := fun z => by rw [h1] at z; exact absurd z (by decide +kernel)
    have eN : NL w [t, u, n] = [t, u] := by unfold NL; rw [if_neg a, if_pos h1]; rfl
    have e2 : mIf (mT (mOp (dEqA true) (mOp dIxA (mVar 1) (mC (.int 0))) (mC (.str ("make" : Str))))) (mLst true (aCons (mOp dIxA (mVar 1) (mC (.int 1))) aNil)) (mLst true (aCons (mOp dIxA (mVar 1) (mC (.int 2))) (aCons (mIf (mT (mOp (dEqA false) (mOp dIxA (mVar 1) (mC (.int 1))) (mC (.str ("use" : Str))))) (mOp dIxA (mVar 1) (mC (.int 4))) (mC .non)) aNil))) Γ S = .ok (.lst [t]) S := by
      unfold mIf
      rw [qn, decide_eq_false a]
      exact mlst_ev (acons (ixt_ev 1 v1 rfl) rfl)
    refine seq_ev (asg_ev e2) ?_
    generalize hΔ : Γ.set 2 (some (.lst [t])) = Δ
    have y1 : mVar 1 Δ S = .ok (.tup [.str w, t, u, n]) S := by rw [← hΔ, ← hΓ]; rfl
    have tq : mT (mOp (dInA false) (mOp dIxA (mVar 1) (mC (.int 0))) (mLst true (strA ["move", "point"]))) Δ S = .ok true S := (t_ev (op_ev (ixt_ev 0 y1 rfl) (strL_ev ["move", "point"]) (in_lst S w _))).trans (by rw [mem2, decide_eq_true h1]; rfl)
    refine seq_ev (if_t tq (asg_ev (mlst_ev (acons (ixt_ev 1 y1 rfl) (acons (ixt_ev 2 y1 rfl) rfl))))) (fin [] [t, u] (by rw [← eN]; exact okL.1) (by rw [eN]) (by simp) (by rw [← hΔ, ← hΓ]; rfl) (fun x => by rw [← hΔ, ← hΓ]; rfl))
  · have a : ¬ w = "make" := fun z => by rw [h1] at z; exact absurd z (by decide +kernel)
    have b : ¬ w = "move" := fun z => by rw [h1] at z; exact absurd z (by decide +kernel)
    have eN : NL w [t, v] = [t, v] := by unfold NL; rw [if_neg a, if_neg b, if_pos h1]; rfl
    have e2 : mIf (mT (mOp (dEqA true) (mOp dIxA (mVar 1) (mC (.int 0))) (mC (.str ("make" : Str))))) (mLst true (aCons (mOp dIxA (mVar 1) (mC (.int 1))) aNil)) (mLst true (aCons (mOp dIxA (mVar 1) (mC (.int 2))) (aCons (mIf (mT (mOp (dEqA false) (mOp dIxA (mVar 1) (mC (.int 1))) (mC (.str ("use" : Str))))) (mOp dIxA (mVar 1) (mC (.int 4))) (mC .non)) aNil))) Γ S = .ok (.lst [t]) S := by
      unfold mIf
      rw [qn, decide_eq_false a]
      exact mlst_ev (acons (ixt_ev 1 v1 rfl) rfl)
    refine seq_ev (asg_ev e2) ?_
    generalize hΔ : Γ.set 2 (some (.lst [t])) = Δ
    have y1 : mVar 1 Δ S = .ok (.tup [.str w, t, v]) S := by rw [← hΔ, ← hΓ]; rfl
    have tq : mT (mOp (dInA false) (mOp dIxA (mVar 1) (mC (.int 0))) (mLst true (strA ["move", "point"]))) Δ S = .ok true S := (t_ev (op_ev (ixt_ev 0 y1 rfl) (strL_ev ["move", "point"]) (in_lst S w _))).trans (by rw [mem2, decide_eq_true h1, Bool.or_true])
    refine seq_ev (if_t tq (asg_ev (mlst_ev (acons (ixt_ev 1 y1 rfl) (acons (ixt_ev 2 y1 rfl) rfl))))) (fin [] [t, v] (by rw [← eN]; exact okL.1) (by rw [eN]) (by simp) (by rw [← hΔ, ← hΓ]; rfl) (fun x => by rw [← hΔ, ← hΓ]; rfl))
  · have eN : NL w (t :: r') = [t] ++ [.non] := by unfold NL; rw [if_neg h1, if_neg h2, if_neg h3]; rfl
    have e2 : mIf (mT (mOp (dEqA true) (mOp dIxA (mVar 1) (mC (.int 0))) (mC (.str ("make" : Str))))) (mLst true (aCons (mOp dIxA (mVar 1) (mC (.int 1))) aNil)) (mLst true (aCons (mOp dIxA (mVar 1) (mC (.int 2))) (aCons (mIf (mT (mOp (dEqA false) (mOp dIxA (mVar 1) (mC (.int 1))) (mC (.str ("use" : Str))))) (mOp dIxA (mVar 1) (mC (.int 4))) (mC .non)) aNil))) Γ S = .ok (.lst [t]) S := by
      unfold mIf
      rw [qn, decide_eq_false h1]
      exact mlst_ev (acons (ixt_ev 1 v1 rfl) rfl)
    refine seq_ev (asg_ev e2) ?_
    generalize hΔ : Γ.set 2 (some (.lst [t])) = Δ
    have y1 : mVar 1 Δ S = .ok (.tup (.str w :: t :: r')) S := by rw [← hΔ, ← hΓ]; rfl
    have tq : mT (mOp (dInA false) (mOp dIxA (mVar 1) (mC (.int 0))) (mLst true (strA ["move", "point"]))) Δ S = .ok false S := (t_ev (op_ev (ixt_ev 0 y1 rfl) (strL_ev ["move", "point"]) (in_lst S w _))).trans (by rw [mem2, decide_eq_false h2, decide_eq_false h3]; rfl)
    exact ifn_ev tq (fin [] [t] (fun x hx => by simp at hx; rw [hx]; exact ht) (by rw [eN, flt_non]) (by simp) (by rw [← hΔ, ← hΓ]; rfl) (fun x => by rw [← hΔ, ← hΓ]; rfl))
end
end K01
end

section
set_option Elab.async false
set_option linter.all false
set_option maxRecDepth 100000
set_option maxHeartbeats 1000000
namespace K01
open PySem PySem.Spec PyProof.Rows L2 Fx
variable [Nam]
/-! ## a good deed passes -/
/-- what is known of a good deed -/
structure GF (d : D) : Prop where
  dd : deedD d = true
  ba : Ba 3 d = true
theorem ints_ba {l : List Int} {c : Int} (h : ∀ y ∈ l, 0 ≤ y ∧ y < c) (hc : c ≤ 1000) (k : Nat) : ∀ d ∈ l.map D.int, Ba k d = true := fun d hd => by
  obtain ⟨y, hy, rfl⟩ := List.mem_map.mp hd
  have := h y hy
  cases k <;> (simp [Ba]; omega)
theorem GD.gf {c : Int} {d : D} (h : GD c d) (hc : c ≤ 900) : GF d := by
  obtain ⟨t, k, l, w, r, rfl, h1, h2, hk, hl, hy, gb⟩ := h.parts
  have st := stamp_mk (t := t) (h := (k : Int)) h1 (by omega) (by omega) (by omega)
  have al : (l.map D.int).all (fun d => numD d 0 (t - 1)) = true := by
    rw [List.all_eq_true]
    intro d hd
    obtain ⟨y, hyy, rfl⟩ := List.mem_map.mp hd
    have := hy y hyy
    simp [numD]
    omega
  refine ⟨?_, ?_⟩
  · simp only [deedD, st, timeOf, seenD, bodyD, gb.ok, al, List.length_map, hl]
    rfl
  · have b1 : Ba 2 (.tup [.int t, .int (k : Int)]) = true := by simp [Ba]; omega
    have b2 : Ba 2 (.tup (l.map D.int)) = true := by
      rw [Ba, Bool.and_eq_true, List.all_eq_true, decide_eq_true_eq, List.length_map]
      exact ⟨by omega, ints_ba hy (by omega) 1⟩
    have b3 := gb.ba5
    rw [Ba, Bool.and_eq_true, List.all_eq_true, decide_eq_true_eq]
    refine ⟨by simp, fun d hd => ?_⟩
    simp at hd
    rcases hd with rfl | rfl | rfl
    · exact b1
    · exact b2
    · exact b3
theorem GF.pl {d : D} (h : GF d) : Pl d = true := sm_pl true 3 d (ba_sm true h.ba)
section
variable (A : Ads)
theorem mark_yes {S : Sto} {c : Int} {d : D} (h : GD c d) (hc : c ≤ 900) : ∃ b, m_is_mark A [d] S = .ok (.bl b) S ∧ ∀ {Γ : En} {e : Ed}, e Γ S = .ok d S → mOp (dInA false) (mOp dIxA (mOp dIxA e (mC (.int 2))) (mC (.int 0))) (mLst true (aCons (mC (.str ("undo" : Str))) (aCons (mC (.str ("redo" : Str))) aNil))) Γ S = .ok (.bl b) S := by
  have gf := h.gf hc
  obtain ⟨s0, s1, w, r, rfl, gb⟩ := h.body
  refine ⟨memS w W2, ?_, fun {Γ e} he => op_ev (ixt_ev 0 (ixt_ev 2 he rfl) rfl) (strL_ev W2) (in_lst S w W2)⟩
  unfold m_is_mark
  have v0 : mVar 0 (enter 1 [.tup [s0, s1, .tup (.str w :: r)]]) S = .ok (.tup [s0, s1, .tup (.str w :: r)]) S := rfl
  exact run_ev (seq_ev (drop_ev (call1 v0 (check_yes A S gf.pl gf.dd))) (ret_ev (op_ev (ixt_ev 0 (ixt_ev 2 v0 rfl) rfl) rfl (in_tup S w W2))))
theorem named_ev {S : Sto} {c : Int} {d : D} (h : GD c d) (hc : c ≤ 900) : ∃ X S1, m_named_by A [d] S = .ok (.lst X) S1 ∧ (∃ o, S1 = S ++ [o]) ∧ (∃ o, m__law_names A [d] S1 = .ok (.lst X) (S1 ++ [o])) ∧ ∀ x ∈ X, Ba 1 x = true := by
  have gf := h.gf hc
  obtain ⟨s0, s1, w, r, rfl, gb⟩ := h.body
  have v0 : mVar 0 (enter 2 [.tup [s0, s1, .tup (.str w :: r)]]) S = .ok (.tup [s0, s1, .tup (.str w :: r)]) S := rfl
  obtain ⟨P, eP, hP⟩ := names_in_ev A S gb
  subst hP
  have okL := NL_ok gb
  have hf := flt_stp (NL w r)
  have hl : ((NL w r).filter stampD).length ≤ 10 := Nat.le_trans (List.length_filter_le _ _) (by omega)
  have e := lc_ev (f := true) (vs := [1]) (j := 1) (cnd := mAnd (mT (mOp (dIs true) (mVar 1) (mC .non))) (mT (mOp (dEqA true) (mVar 1) (mC (.tup [.int 0, .int 0]))))) (elt := mVar 1) (Γ := enter 2 [.tup [s0, s1, .tup (.str w :: r)]]) (any_lst (call1 (ixt_ev 2 v0 rfl) eP)) (its_seq rfl) stampD id (fun x hx => ⟨keep_ev S (okL.1 x hx) (e := mVar 1) rfl rfl, fun _ => rfl⟩) (by unfold big; omega)
  rw [List.map_id] at e
  refine ⟨SrtK ((NL w r).filter stampD), S ++ [.dct (foldK (.bl true) [] ((NL w r).filter stampD))], ?_, ⟨_, rfl⟩, ⟨_, lnames_ev A _ gb⟩, fun x hx => stp_ba (SrtK_mem hf x hx)⟩
  unfold m_named_by
  exact run_ev (seq_ev (drop_ev (call1 v0 (check_yes A S gf.pl gf.dd))) (ret_ev (call1 e (order_ev A S hf hl))))
theorem time_ok {S : Sto} {d : D} {t : Int} {k : Nat} {l : List Int} {b : D} (gf : GF d) (hd : d = .tup [.tup [.int t, .int (k : Int)], .tup (l.map D.int), b]) (hl : l.length = 4) {j : Nat} (hj : j < 4) : m_time_seen A [d, .int (j : Int)] S = .ok (.int (l[j]'(by omega))) S := by
  have v0 : mVar 0 (enter 2 [d, .int (j : Int)]) S = .ok d S := rfl
  have hn : numD (.int (j : Int)) 0 3 = true := by simp [numD]; omega
  unfold m_time_seen
  refine run_ev (seq_ev (drop_ev (call1 v0 (check_yes A S gf.pl gf.dd))) (seq_ev (drop_ev (call1 rfl (hand_yes A S rfl hn))) (ret_ev ?_)))
  subst hd
  exact op_ev (ixt_ev 1 v0 rfl) rfl (ixt_int (by omega) S)
theorem odds5 : ∀ x ∈ ([.int (-1), .int 4, .non, .bl true, .str "0"] : List D), Sm true 1 x = true ∧ numD x 0 3 = false := by decide +kernel
/-- S' has what S has, but the pool's numbers -/
structure Kp (n : Nat) (S S' : Sto) : Prop where
  po : Po S' n
  old : ∀ m o, m ≠ n → S[m]? = some o → S'[m]? = some o
theorem Kp.refl {n : Nat} {S : Sto} (p : Po S n) : Kp n S S := ⟨p, fun _ _ _ h => h⟩
theorem Kp.trans {n : Nat} {S S1 S2 : Sto} (h : Kp n S S1) (k : Kp n S1 S2) : Kp n S S2 := ⟨k.po, fun m o hm e => k.old m o hm (h.old m o hm e)⟩
theorem Kp.ch {n : Nat} {S S' : Sto} (p : Po S n) (h : Ch n S S') : Kp n S S' := ⟨h.po p, fun m o hm e => by rw [h.get hm]; exact e⟩
theorem Kp.app {n : Nat} {S : Sto} (p : Po S n) (xs : List O) : Kp n S (S ++ xs) := by
  obtain ⟨a, b, e⟩ := p
  have k : ∀ {m : Nat} {o : O}, S[m]? = some o → (S ++ xs)[m]? = some o := fun {m o} h => by rw [List.getElem?_append_left (List.getElem?_eq_some_iff.mp h).1]; exact h
  exact ⟨⟨a, b, k e⟩, fun m o _ h => k h⟩
theorem deed_right {S : Sto} {n : Nat} (p : Po S n) {c : Int} {d : D} (h : GD c d) (hc : c ≤ 900) (ne : A.C_NoHand ≠ A.C_NoDeed) : ∃ S', m__law_deed_right A [.ref n, d] S = .ok (.bl true) S' ∧ Kp n S S' := by
  have gf := h.gf hc
  have v0 : ∀ S, mVar 0 (enter 4 [.ref n, d]) S = .ok (.ref n) S := fun S => rfl
  have v1 : ∀ S, mVar 1 (enter 4 [.ref n, d]) S = .ok d S := fun S => rfl
  obtain ⟨b, em, em2⟩ := mark_yes A (S := S) h hc
  obtain ⟨X, S1, en, ⟨o1, h1⟩, ⟨o2, en2⟩, hX⟩ := named_ev A (S := S) h hc
  have t1 : mT (mOp (dEqA true) (mCall 1 (m_is_mark A) (aCons (mVar 1) aNil)) (mOp (dInA false) (mOp dIxA (mOp dIxA (mVar 1) (mC (.int 2))) (mC (.int 0))) (mLst true (aCons (mC (.str ("undo" : Str))) (aCons (mC (.str ("redo" : Str))) aNil))))) (enter 4 [.ref n, d]) S = .ok false S :=
    (t_ev (op_ev (call1 (v1 S) em) (em2 (v1 S)) (eqB true b b S))).trans (by simp)
  have t2 : mT (mOp (dEqA true) (mCall 1 (m_named_by A) (aCons (mVar 1) aNil)) (mCall 1 (m__law_names A) (aCons (mVar 1) aNil))) (enter 4 [.ref n, d]) S = .ok false (S1 ++ [o2]) :=
    (t_ev (op_ev (call1 (v1 S) en) (call1 (v1 S1) en2) (eq_lst (k := 1) (by decide) hX true _))).trans (by simp)
  have k2 : Kp n S (S1 ++ [o2]) := by
    rw [h1]
    exact (Kp.app p [o1]).trans (Kp.app (Kp.app p [o1]).po [o2])
  generalize S1 ++ [o2] = S2 at t2 k2
  have t12 : mOr (mT (mOp (dEqA true) (mCall 1 (m_is_mark A) (aCons (mVar 1) aNil)) (mOp (dInA false) (mOp dIxA (mOp dIxA (mVar 1) (mC (.int 2))) (mC (.int 0))) (mLst true (aCons (mC (.str ("undo" : Str))) (aCons (mC (.str ("redo" : Str))) aNil)))))) (mT (mOp (dEqA true) (mCall 1 (m_named_by A) (aCons (mVar 1) aNil)) (mCall 1 (m__law_names A) (aCons (mVar 1) aNil)))) (enter 4 [.ref n, d]) S = .ok false S2 := by
    unfold mOr
    rw [t1]
    exact t2
  obtain ⟨t, k, l, w, r, hd, _, htc, _, hl, hy, _⟩ := h.parts
  have e3 : mLc true [3] (iRg rng1 (aCons (mC (.int 4)) aNil)) (gN 3) bYes (mCall 2 (m_time_seen A) (aCons (mVar 1) (aCons (mVar 3) aNil))) (enter 4 [.ref n, d]) S2 = .ok (.lst (l.map D.int)) S2 := by
    have := lc_all (f := true) (vs := [3]) (j := 3) (elt := mCall 2 (m_time_seen A) (aCons (mVar 1) (aCons (mVar 3) aNil))) (Γ := enter 4 [.ref n, d]) (S0 := S2) rg4 (its_rng 4 S2) (fun x => match x with | .int i => .int (l.getD i.toNat 0) | _ => .non) (fun x hx => by
      obtain ⟨j, rfl, hj⟩ := mem_rg hx
      refine (call2 (d := d) (d1 := .int (j : Int)) rfl rfl (time_ok A gf hd hl hj)).trans ?_
      simp [List.getElem?_eq_getElem (show j < l.length by omega)]) (by decide)
    rw [this]
    match l, hl with
    | [a, b, c, d], _ => rfl
  have e4 : mBlt (fList true) (aCons (mOp dIxA (mVar 1) (mC (.int 1))) aNil) (enter 4 [.ref n, d]) S2 = .ok (.lst (l.map D.int)) S2 := by
    have : mOp dIxA (mVar 1) (mC (.int 1)) (enter 4 [.ref n, d]) S2 = .ok (.tup (l.map D.int)) S2 := ixt_ev 1 ((v1 S2).trans (by rw [hd])) rfl
    simp [mBlt, aCons, this, fList, dSq, mkL]
  have t3 := (t_ev (op_ev e3 e4 (eq_lst (k := 1) (by decide) (ints_ba hy (by omega) 1) true S2))).trans (by rw [nb_t])
  have eo : mLst true (aCons (mUn dNeg (mC (.int 1))) (aCons (mC (.int 4)) (aCons (mC .non) (aCons (mC (.bl true)) (aCons (mC (.str ("0" : Str))) aNil))))) (enter 4 [.ref n, d]) S2 = .ok (.lst [.int (-1), .int 4, .non, .bl true, .str "0"]) S2 := rfl
  obtain ⟨x, S3, e5, c5, hx⟩ := one_call A k2.po (v0 S2) eo (by simp) (by simp)
  have ox := odds5 x hx
  obtain ⟨tx, htx, hok⟩ := repr_ok ox.1 (by decide)
  generalize hΓ : (enter 4 [.ref n, d]).set 2 (some x) = Γ
  have w1 : mVar 1 Γ S3 = .ok d S3 := by rw [← hΓ]; rfl
  have w2 : mVar 2 Γ S3 = .ok x S3 := by rw [← hΓ]; rfl
  have ec := caught_hand A S3 ne (call2_ex S3 w1 w2 (time_bad A S3 gf.pl gf.dd (sm_pl true 1 x ox.1) ox.2)) htx
  have el : mLst true (aCons (mC (.str ("hand" : Str))) (aCons (mBlt fRepr (aCons (mVar 2) aNil)) aNil)) Γ S3 = .ok (.lst [.str "hand", .str tx]) S3 := mlst_ev (acons rfl (acons (repr_ev w2 htx) rfl))
  refine ⟨S3, ?_, k2.trans (Kp.ch k2.po c5)⟩
  unfold m__law_deed_right
  refine run_ev (ifn_ev t12 (ifn_ev t3 (seq_ev (asg_ev e5) ?_)))
  rw [hΓ]
  exact ret_ev ((op_ev ec el (eqL2 S3 false (by decide +kernel) hok)).trans (by simp))
end
end K01
end

section
set_option Elab.async false
set_option linter.all false
set_option maxRecDepth 100000
set_option maxHeartbeats 1000000
namespace K01
open PySem PySem.Spec PyProof.Rows L2 Fx
variable [Nam]
/-! ## the law's loops -/
/-- a loop over things that stay -/
theorem lp_its {s : Sr} {xs : List D} {j : Nat} {b : Sd} (P : En → Sto → Prop) (hs : ∀ Γ S, P Γ S → ∀ i, itS s i S = some xs[i]?) (hstep : ∀ (x : D) (Γ : En) (S : Sto), x ∈ xs → P Γ S → ∃ Γ' S', b (Γ.set j (some x)) S = .nx Γ' S' ∧ P Γ' S') :
    ∀ (k i : Nat) (Γ : En) (S : Sto), i ≤ xs.length → k = xs.length - i + 1 → P Γ S → ∃ Γ' S', lpF s (gN j) b k i Γ S = .nx Γ' S' ∧ P Γ' S'
  | 0, i, Γ, S, hi, hk, _ => by omega
  | k + 1, i, Γ, S, hi, hk, hp => by
    unfold lpF
    rw [hs Γ S hp i]
    by_cases h : i < xs.length
    · obtain ⟨Γ1, S1, e, hp1⟩ := hstep xs[i] Γ S (List.getElem_mem h) hp
      obtain ⟨Γ2, S2, e2, hp2⟩ := lp_its P hs hstep k (i + 1) Γ1 S1 (by omega) (by omega) hp1
      refine ⟨Γ2, S2, ?_, hp2⟩
      rw [List.getElem?_eq_getElem h]
      show (match b (Γ.set j (some xs[i])) S with | .nx Γ2 S2 => _ | .ct Γ2 S2 => _ | .bk Γ2 S2 => _ | r => r) = _
      rw [e]
      exact e2
    · have : xs[i]? = none := List.getElem?_eq_none (by omega)
      rw [this]
      exact ⟨Γ, S, rfl, hp⟩
theorem for_its {s : Sr} {xs : List D} {j : Nat} {b : Sd} {src : Id'} {Γ : En} {S S1 : Sto} (e : src Γ S = .ok s S1) (hl : lenS s S1 = xs.length + 1) (P : En → Sto → Prop) (h0 : P Γ S1) (hs : ∀ Γ S, P Γ S → ∀ i, itS s i S = some xs[i]?) (hstep : ∀ (x : D) (Γ : En) (S : Sto), x ∈ xs → P Γ S → ∃ Γ' S', b (Γ.set j (some x)) S = .nx Γ' S' ∧ P Γ' S') :
    ∃ Γ' S', sFor src (gN j) b Γ S = .nx Γ' S' ∧ P Γ' S' := by
  unfold sFor
  rw [e]
  show ∃ Γ' S', lpF s (gN j) b (lenS s S1) 0 Γ S1 = .nx Γ' S' ∧ P Γ' S'
  rw [hl]
  exact lp_its P hs hstep _ 0 Γ S1 (Nat.zero_le _) rfl h0
section
variable (A : Ads)
/-- one value is judged -/
theorem law1_ev {l : Bool} {k : Nat} (hk : k ≤ 6) {x : D} (h : Sm l k x = true) {Γ : En} {S : Sto} (v : ∀ S, mVar 5 Γ S = .ok x S) : B_law_1 A Γ S = .nx Γ S := by
  have px := sm_pl l k x h
  have t1 : mNot (mT (mCall 1 (m__law_value_right A) (aCons (mVar 5) aNil))) Γ S = .ok false S := tnot_ev (t_ev (call1 (v S) (value_ev A S px)))
  have t2 : mNot (mT (mCall 1 (m__law_a_deed A) (aCons (mVar 5) aNil))) Γ S = .ok (!deedD x) S := tnot_ev (t_ev (call1 (v S) (ldeed_ev A S px)))
  unfold B_law_1
  refine ifn_ev t1 ?_
  cases hd : deedD x with
  | true => exact if_f (t2.trans (by rw [hd]; rfl)) rfl
  | false =>
    obtain ⟨t, ht, hok⟩ := repr_ok h hk
    have el : mLst true (aCons (mC (.str ("deed" : Str))) (aCons (mBlt fRepr (aCons (mVar 5) aNil)) aNil)) Γ S = .ok (.lst [.str "deed", .str t]) S := mlst_ev (acons rfl (acons (repr_ev (v S) ht) rfl))
    have c1 := caught_deed A S (call1_ex S (v S) (mark_no A S px hd)) ht
    have c2 := caught_deed A S (call2_ex S (v S) (e1 := mC .non) (d1 := .non) rfl (time_no A S px hd)) ht
    have q1 := t_ev (op_ev (g := dEqA true) c1 el (eqL2 S true (by decide +kernel) hok))
    have q2 := t_ev (op_ev (g := dEqA true) c2 el (eqL2 S true (by decide +kernel) hok))
    refine if_t (t2.trans (by rw [hd]; rfl)) (ifn_ev (q1.trans (by simp)) (if_f (q2.trans (by simp)) rfl))
/-- the slots of the law -/
structure LQ (Γ : En) (sc : D) (n : Nat) : Prop where
  s0 : ∀ S, mVar 0 Γ S = .ok sc S
  s2 : ∀ S, mVar 2 Γ S = .ok (.ref n) S
  ln : 6 ≤ Γ.length
theorem LQ.set {Γ : En} {sc : D} {n j : Nat} {x : Option D} (q : LQ Γ sc n) (h0 : j ≠ 0) (h2 : j ≠ 2) : LQ (Γ.set j x) sc n := by
  have k : ∀ {i : Nat}, j ≠ i → (Γ.set j x)[i]? = Γ[i]? := fun h => List.getElem?_set_ne h
  refine ⟨fun S => ?_, fun S => ?_, by rw [List.length_set]; exact q.ln⟩
  · have := q.s0 S; unfold mVar at this ⊢; rw [k h0]; exact this
  · have := q.s2 S; unfold mVar at this ⊢; rw [k h2]; exact this
theorem var_set {Γ : En} {j : Nat} {x : D} (h : j < Γ.length) (S : Sto) : mVar j (Γ.set j (some x)) S = .ok x S := mVar_ev (List.getElem?_set_self h)
theorem var_ne {Γ : En} {i j : Nat} {x : Option D} {d : D} (h : j ≠ i) (hv : ∀ S, mVar i Γ S = .ok d S) (S : Sto) : mVar i (Γ.set j x) S = .ok d S := by
  have := hv S; unfold mVar at this ⊢; rw [List.getElem?_set_ne h]; exact this
theorem sm_le {l : Bool} {k j : Nat} {d : D} (h : Sm l k d = true) (hj : k ≤ j) : Sm l j d = true := by
  induction j with
  | zero =>
    have hk : k = 0 := by omega
    rw [← hk]; exact h
  | succ j ih =>
    by_cases hk : k = j + 1
    · rw [← hk]; exact h
    · exact sm_up l (ih (by omega))
/-- some small thing -/
def Sx (x : D) : Prop := ∃ l, Sm l 6 x = true
/-- one deed of the world -/
theorem law2_ev {S : Sto} {n : Nat} (p : Po S n) {c : Int} (hc : c ≤ 900) {d : D} (h : GD c d) (ne : A.C_NoHand ≠ A.C_NoDeed) {Γ : En} {sc : D} (q : LQ Γ sc n) (v3 : ∀ S, mVar 3 Γ S = .ok d S) :
    ∃ Γ' S', B_law_2 A Γ S = .nx Γ' S' ∧ LQ Γ' sc n ∧ Kp n S S' := by
  have gf := h.gf hc
  obtain ⟨t, k, l, w, r, hd, _, htc, hk, hl, hy, gb⟩ := h.parts
  have bd := gf.ba
  have i0 : ∀ S, mOp dIxA (mVar 3) (mC (.int 0)) Γ S = .ok (.tup [.int t, .int (k : Int)]) S := fun S => ixt_ev 0 ((v3 S).trans (by rw [hd])) rfl
  have i1 : ∀ S, mOp dIxA (mVar 3) (mC (.int 1)) Γ S = .ok (.tup (l.map D.int)) S := fun S => ixt_ev 1 ((v3 S).trans (by rw [hd])) rfl
  have i2 : ∀ S, mOp dIxA (mVar 3) (mC (.int 2)) Γ S = .ok (.tup (.str w :: r)) S := fun S => ixt_ev 2 ((v3 S).trans (by rw [hd])) rfl
  have b0 : Ba 2 (.tup [.int t, .int (k : Int)]) = true := by
    rw [hd, Ba, Bool.and_eq_true, List.all_eq_true] at bd
    exact bd.2 _ (by simp)
  have b1 : Ba 2 (.tup (l.map D.int)) = true := by
    rw [hd, Ba, Bool.and_eq_true, List.all_eq_true] at bd
    exact bd.2 _ (by simp)
  have b2 : Ba 2 (.tup (.str w :: r)) = true := by
    rw [hd, Ba, Bool.and_eq_true, List.all_eq_true] at bd
    exact bd.2 _ (by simp)
  have p2 : Pl (.tup (.str w :: r)) = true := sm_pl true 2 _ (ba_sm true b2)
  have bds : ∀ x ∈ ([.tup [.int t, .int (k : Int)], .tup (l.map D.int), .tup (.str w :: r)] : List D), Ba 3 x = true := fun x hx => by
    simp at hx
    rcases hx with rfl | rfl | rfl
    · exact ba_up b0
    · exact ba_up b1
    · exact ba_up b2
  have bws : ∀ x ∈ (.str w :: r : List D), Ba 3 x = true := fun x hx => by
    rw [Ba, Bool.and_eq_true, List.all_eq_true] at b2
    exact ba_le (b2.2 x hx) (by omega)
  have bls : ∀ x ∈ l.map D.int, Ba 3 x = true := ints_ba hy (by omega) 3
  have lw : (.str w :: r : List D).length ≤ 5 := by have := gb.ln; simp; omega
  -- the deed itself
  obtain ⟨S1, e1, k1⟩ := deed_right A p h hc ne
  have t1 : mOr (mNot (mT (mCall 1 (m__law_value_right A) (aCons (mVar 3) aNil)))) (mOr (mNot (mT (mCall 1 (m__law_value_right A) (aCons (mOp dIxA (mVar 3) (mC (.int 2))) aNil)))) (mNot (mT (mCall 2 (m__law_deed_right A) (aCons (mVar 2) (aCons (mVar 3) aNil)))))) Γ S = .ok false S1 := by
    have a1 : mNot (mT (mCall 1 (m__law_value_right A) (aCons (mVar 3) aNil))) Γ S = .ok false S := tnot_ev (t_ev (call1 (v3 S) (value_ev A S gf.pl)))
    have a2 : mNot (mT (mCall 1 (m__law_value_right A) (aCons (mOp dIxA (mVar 3) (mC (.int 2))) aNil))) Γ S = .ok false S := tnot_ev (t_ev (call1 (i2 S) (value_ev A S p2)))
    have a3 : mNot (mT (mCall 2 (m__law_deed_right A) (aCons (mVar 2) (aCons (mVar 3) aNil)))) Γ S = .ok false S1 := tnot_ev (t_ev (call2 (q.s2 S) (v3 S) e1))
    unfold mOr
    rw [a1]
    show Res.bind (mNot (mT (mCall 1 (m__law_value_right A) (aCons (mOp dIxA (mVar 3) (mC (.int 2))) aNil))) Γ S) _ = _
    rw [a2]
    exact a3
  -- the bent ones
  obtain ⟨x1, S2, l1, e2, c2, g1⟩ := bent_ev A k1.po (ds := [.tup [.int t, .int (k : Int)], .tup (l.map D.int), .tup (.str w :: r)]) (by simp) (by simp) bds
  have P2 := c2.po k1.po
  obtain ⟨x2, S3, l2, e3, c3, g2⟩ := bent_ev A P2 (ds := .str w :: r) (by simp) lw bws
  have P3 := c3.po P2
  have eb : mLst false (aCons (mCall 2 (m__law_bent A) (aCons (mVar 2) (aCons (mVar 3) aNil))) (aCons (mCall 2 (m__law_bent A) (aCons (mVar 2) (aCons (mOp dIxA (mVar 3) (mC (.int 2))) aNil))) aNil)) Γ S1 = .ok (.ref S3.length) (S3 ++ [.lst [x1, x2]]) := by
    unfold mLst
    rw [acons (call2 (q.s2 S1) ((v3 S1).trans (by rw [hd])) e2) (acons (call2 (q.s2 S2) (i2 S2) e3) rfl)]
    rfl
  have P4 := (Kp.app P3 [O.lst [x1, x2]]).po
  have g4 : (S3 ++ [O.lst [x1, x2]])[S3.length]? = some (.lst [x1, x2]) := last_at S3 _
  have nq : S3.length ≠ n := by have := P3.lt; omega
  have k4 : Kp n S (S3 ++ [O.lst [x1, x2]]) := (((k1.trans (Kp.ch k1.po c2)).trans (Kp.ch P2 c3)).trans (Kp.app P3 _))
  -- what is old stays when the list of bent ones is written
  have kset : ∀ {S' : Sto} (o : O), Kp n S S' → (∀ m o', S[m]? = some o' → m ≠ S3.length) → S3.length < S'.length → Kp n S (S'.set S3.length o) := fun {S'} o hk hm hl => by
    obtain ⟨a, b, e⟩ := hk.po
    refine ⟨⟨a, b, by rw [List.getElem?_set_ne nq]; exact e⟩, fun m o' hmn he => ?_⟩
    rw [List.getElem?_set_ne (Ne.symm (hm m o' he))]
    exact hk.old m o' hmn he
  have hm : ∀ m o', S[m]? = some o' → m ≠ S3.length := fun m o' he z => by
    have h1 := (List.getElem?_eq_some_iff.mp he).1
    have : S.length ≤ S1.length := by
      by_cases hz : S.length ≤ S1.length
      · exact hz
      · have hlt : S1.length < S.length := by omega
        by_cases hn : S1.length = n
        · have := k1.po.lt; omega
        · have := k1.old S1.length _ hn (List.getElem?_eq_getElem hlt)
          have := (List.getElem?_eq_some_iff.mp this).1
          omega
    have a2 := c2.len
    have a3 := c3.len
    omega
  generalize hΓ4 : Γ.set 4 (some (.ref S3.length)) = Γ4
  have q4 : LQ Γ4 sc n := by rw [← hΓ4]; exact q.set (by decide) (by decide)
  have w3 : ∀ S, mVar 3 Γ4 S = .ok d S := fun S => by rw [← hΓ4]; exact var_ne (by decide) v3 S
  have w4 : ∀ S, mVar 4 Γ4 S = .ok (.ref S3.length) S := fun S => by rw [← hΓ4]; exact var_set (by have := q.ln; omega) S
  have j0 : ∀ S, mOp dIxA (mVar 3) (mC (.int 0)) Γ4 S = .ok (.tup [.int t, .int (k : Int)]) S := fun S => ixt_ev 0 ((w3 S).trans (by rw [hd])) rfl
  have j1 : ∀ S, mOp dIxA (mVar 3) (mC (.int 1)) Γ4 S = .ok (.tup (l.map D.int)) S := fun S => ixt_ev 1 ((w3 S).trans (by rw [hd])) rfl
  have j2 : ∀ S, mOp dIxA (mVar 3) (mC (.int 2)) Γ4 S = .ok (.tup (.str w :: r)) S := fun S => ixt_ev 2 ((w3 S).trans (by rw [hd])) rfl
  generalize hS4 : S3 ++ [O.lst [x1, x2]] = S4 at *
  generalize hqq : S3.length = qq at *
  obtain ⟨x3, S5, l3, e5, c5, g3⟩ := bent_ev A P4 (ds := .str w :: r) (by simp) lw bws
  have P5 := c5.po P4
  have e3t : mTup (aCons (mOp dIxA (mVar 3) (mC (.int 0))) (aCons (mOp dIxA (mVar 3) (mC (.int 1))) (aCons (mCall 2 (m__law_bent A) (aCons (mVar 2) (aCons (mOp dIxA (mVar 3) (mC (.int 2))) aNil))) aNil))) Γ4 S4 = .ok (.tup [.tup [.int t, .int (k : Int)], .tup (l.map D.int), x3]) S5 := mtup_ev (acons (j0 S4) (acons (j1 S4) (acons (call2 (q4.s2 S4) (j2 S4) e5) rfl)))
  have g5 : S5[qq]? = some (.lst [x1, x2]) := by rw [c5.get nq]; exact g4
  have ea := append_ev (w4 S4) g4 e3t g5 (by simp)
  have lq : qq < S5.length := (List.getElem?_eq_some_iff.mp g5).1
  have k6 := kset (.lst ([x1, x2] ++ [.tup [.tup [.int t, .int (k : Int)], .tup (l.map D.int), x3]])) (k4.trans (Kp.ch P4 c5)) hm lq
  have g6 : (S5.set qq (.lst ([x1, x2] ++ [.tup [.tup [.int t, .int (k : Int)], .tup (l.map D.int), x3]])))[qq]? = some (.lst ([x1, x2] ++ [.tup [.tup [.int t, .int (k : Int)], .tup (l.map D.int), x3]])) := List.getElem?_set_self lq
  generalize hS6 : S5.set qq (.lst ([x1, x2] ++ [.tup [.tup [.int t, .int (k : Int)], .tup (l.map D.int), x3]])) = S6 at *
  -- the others
  obtain ⟨x4, S7, l4, e7, c7, g7⟩ := bent_ev A k6.po (ds := l.map D.int) (by intro z; rw [List.map_eq_nil_iff] at z; rw [z] at hl; cases hl) (by rw [List.length_map]; omega) bls
  have P7 := c7.po k6.po
  obtain ⟨x5, S8, l5, e8, c8, g8⟩ := odd_ev A P7
  have k8 := (k6.trans (Kp.ch k6.po c7)).trans (Kp.ch P7 c8)
  have el : mBlt (fList true) (aCons (mVar 3) aNil) Γ4 S7 = .ok (.lst [.tup [.int t, .int (k : Int)], .tup (l.map D.int), .tup (.str w :: r)]) S7 := by simp [mBlt, aCons, w3 S7, hd, fList, dSq, mkL]
  have eR : mLst true (aCons (mTup (aCons (mOp dIxA (mVar 3) (mC (.int 0))) (aCons (mCall 2 (m__law_bent A) (aCons (mVar 2) (aCons (mOp dIxA (mVar 3) (mC (.int 1))) aNil))) (aCons (mOp dIxA (mVar 3) (mC (.int 2))) aNil)))) (aCons (mBlt (fList true) (aCons (mVar 3) aNil)) (aCons (mCall 1 (m__law_odd A) (aCons (mVar 2) aNil)) aNil))) Γ4 S6 = .ok (.lst [.tup [.tup [.int t, .int (k : Int)], x4, .tup (.str w :: r)], .lst [.tup [.int t, .int (k : Int)], .tup (l.map D.int), .tup (.str w :: r)], x5]) S8 :=
    mlst_ev (acons (mtup_ev (acons (j0 S6) (acons (call2 (q4.s2 S6) (j1 S6) e7) (acons (j2 S7) rfl)))) (acons el (acons (call1 (q4.s2 S7) e8) rfl)))
  have g9 : S8[qq]? = some (.lst ([x1, x2] ++ [.tup [.tup [.int t, .int (k : Int)], .tup (l.map D.int), x3]])) := by rw [c8.get nq, c7.get nq]; exact g6
  generalize hys : ([x1, x2] ++ [.tup [.tup [.int t, .int (k : Int)], .tup (l.map D.int), x3]]) ++ [.tup [.tup [.int t, .int (k : Int)], x4, .tup (.str w :: r)], .lst [.tup [.int t, .int (k : Int)], .tup (l.map D.int), .tup (.str w :: r)], x5] = ys
  have es : mOp (dAdd true) (mVar 4) (mLst true (aCons (mTup (aCons (mOp dIxA (mVar 3) (mC (.int 0))) (aCons (mCall 2 (m__law_bent A) (aCons (mVar 2) (aCons (mOp dIxA (mVar 3) (mC (.int 1))) aNil))) (aCons (mOp dIxA (mVar 3) (mC (.int 2))) aNil)))) (aCons (mBlt (fList true) (aCons (mVar 3) aNil)) (aCons (mCall 1 (m__law_odd A) (aCons (mVar 2) aNil)) aNil)))) Γ4 S6 = .ok (.lst ys) S8 := by
    refine op_ev (w4 S6) eR ?_
    have hb : 3 + 3 ≤ big := by decide
    rw [← hys]
    simp [dAdd, dLs, g9, hb, mkL]
  have hx : ∀ x ∈ ys, Sx x := fun x hx => by
    have sb : ∀ {x : D}, Ba 3 x = true → ∀ l, Sm l 5 x = true := fun {x} h l => sm_le (ba_sm l h) (by omega)
    rw [← hys] at hx
    simp at hx
    rcases hx with rfl | rfl | rfl | rfl | rfl | rfl
    · exact ⟨l1, sm_le g1 (by omega)⟩
    · exact ⟨l2, sm_le g2 (by omega)⟩
    · refine ⟨l3, sm_tup (by simp) fun y hy => ?_⟩
      simp at hy
      rcases hy with rfl | rfl | rfl
      · exact sb (ba_up b0) l3
      · exact sb (ba_up b1) l3
      · exact sm_le g3 (by omega)
    · refine ⟨l4, sm_tup (by simp) fun y hy => ?_⟩
      simp at hy
      rcases hy with rfl | rfl | rfl
      · exact sb (ba_up b0) l4
      · exact sm_le g7 (by omega)
      · exact sb (ba_up b2) l4
    · refine ⟨true, ?_⟩
      rw [Sm, Bool.and_eq_true, Bool.and_eq_true, List.all_eq_true]
      exact ⟨rfl, by simp, fun y hy => sb (bds y hy) true⟩
    · exact ⟨l5, sm_le g8 (by omega)⟩
  obtain ⟨Γ9, S9, e9, q9, hS9⟩ := for_its (j := 5) (b := B_law_1 A) (any_lst es) (xs := ys) (by simp [lenS, dL]) (fun Γ S => LQ Γ sc n ∧ S = S8) ⟨q4, rfl⟩ (fun Γ S _ i => by simp [itS, dL]) (fun x Γ S hxm ⟨qq', hS⟩ => by
    obtain ⟨lx, hsx⟩ := hx x hxm
    exact ⟨_, S, law1_ev A (by omega) hsx (var_set (by have := qq'.ln; omega)), qq'.set (by decide) (by decide), hS⟩)
  refine ⟨Γ9, S9, ?_, q9, by rw [hS9]; exact k8⟩
  unfold B_law_2
  refine ifn_ev t1 (seq_ev (asg_ev eb) ?_)
  rw [hΓ4]
  exact seq_ev (drop_ev ea) e9
end
end K01
end

section
set_option Elab.async false
set_option linter.all false
set_option maxRecDepth 100000
set_option maxHeartbeats 1000000
namespace K01
open PySem PySem.Spec PyProof.Rows L2 Fx
variable [Nam]
/-! ## the law is true -/
section
variable (A : Ads)
theorem law3_ev (ne : A.C_NoHand ≠ A.C_NoDeed) {ns : List Int} {k : Nat} (hk : k ≤ 3) {Γ : En} (v0 : ∀ S, mVar 0 Γ S = .ok (.fz (ns.map D.int)) S) (v1 : ∀ S, mVar 1 Γ S = .ok (.int (k : Int)) S) (hl : 6 ≤ Γ.length) (S : Sto) :
    ∃ Γ' S', B_law_3 A Γ S = .nx Γ' S' ∧ (∀ S, mVar 0 Γ' S = .ok (.fz (ns.map D.int)) S) ∧ 6 ≤ Γ'.length := by
  obtain ⟨x, y, e1⟩ := pool_ev A (ns := ns) hk S
  have p1 : Po (S ++ [pl x y]) S.length := ⟨x, y, last_at S _⟩
  generalize S ++ [pl x y] = S1 at e1 p1
  generalize S.length = n at e1 p1
  generalize hΔ : Γ.set 2 (some (.ref n)) = Δ
  have q : LQ Δ (.fz (ns.map D.int)) n := ⟨fun S => by rw [← hΔ]; exact var_ne (by decide) v0 S, fun S => by rw [← hΔ]; exact var_set (by omega) S, by rw [← hΔ, List.length_set]; exact hl⟩
  obtain ⟨S2, a, b, m, c, ds, rows, e2, W, hc, hd⟩ := drawn_ev A p1
  have es : iAny (mOp dIxA (mCall 3 (m__law_drawn A) (aCons (mVar 2) (aCons (mC (.int 8)) (aCons (mC (.int 3)) aNil)))) (mC (.int 0))) Δ S1 = .ok (.seq (.ref a)) S2 :=
    any_ref (op_ev (call3 (q.s2 S1) rfl rfl e2) rfl (ix_lst (j := 0) rfl)) W.ga
  obtain ⟨Γ3, S3, e3, q3, _⟩ := for_its (j := 3) (b := B_law_2 A) es (xs := ds) (by simp [lenS, dL, W.ga]) (fun Γ S => LQ Γ (.fz (ns.map D.int)) n ∧ Kp n S2 S) ⟨q, Kp.refl W.po⟩ (fun Γ S ⟨_, hk⟩ i => by
    have := hk.old a _ W.an W.ga
    simp [itS, dL, this]) (fun x Γ S hx ⟨qq, hk⟩ => by
    obtain ⟨Γ', S', e, q', k'⟩ := law2_ev A hk.po (c := c) (by omega) (W.gd x hx) ne (qq.set (j := 3) (x := some x) (by decide) (by decide)) (fun S => var_set (by have := qq.ln; omega) S)
    exact ⟨Γ', S', e, q', hk.trans k'⟩)
  refine ⟨Γ3, S3, ?_, q3.s0, q3.ln⟩
  unfold B_law_3
  refine seq_ev (asg_ev (call2 (v0 S) (v1 S) e1)) ?_
  rw [hΔ]
  exact e3
theorem rounds_ev (ns : List Int) (S : Sto) : ∃ t : Nat, t ≤ 3 ∧ m__law_rounds A [.fz (ns.map D.int)] S = .ok (.lst ((List.range t).map fun i : Nat => D.int (i : Int))) S := by
  have el : mBlt fLenA (aCons (mVar 0) aNil) (enter 1 [.fz (ns.map D.int)]) S = .ok (.int ns.length) S := by
    have : mVar 0 (enter 1 [.fz (ns.map D.int)]) S = .ok (.fz (ns.map D.int)) S := rfl
    simp [mBlt, aCons, this, fLenA, dDc, fLen, dSq, dL]
  have emin : mBlt fMinA (aCons (mBlt fLenA (aCons (mVar 0) aNil)) (aCons (mC (.int 3)) aNil)) (enter 1 [.fz (ns.map D.int)]) S = .ok (.int (if (3 : Int) < ns.length then 3 else ns.length)) S := by
    simp [mBlt, aCons, fMaxM, fMin2] at el ⊢
    simp [el]
    rfl
  have emax := max2_ev (e := mC (.int 1)) (i := 1) (Γ := enter 1 [.fz (ns.map D.int)]) (S := S) (S1 := S) rfl emin
  have fin : ∀ t : Nat, t ≤ 3 → mBlt fMaxA (aCons (mC (.int 1)) (aCons (mBlt fMinA (aCons (mBlt fLenA (aCons (mVar 0) aNil)) (aCons (mC (.int 3)) aNil))) aNil)) (enter 1 [.fz (ns.map D.int)]) S = .ok (.int (t : Int)) S → m__law_rounds A [.fz (ns.map D.int)] S = .ok (.lst ((List.range t).map fun i : Nat => D.int (i : Int))) S := by
    intro t ht e
    unfold m__law_rounds
    refine run_ev (ret_ev ?_)
    refine (show mBlt (fLrg true) _ _ S = (aCons _ aNil _ S).bind (fLrg true) from rfl).trans ?_
    rw [acons e rfl, Res.bind_ok]
    have ok : RgOk 0 (t : Int) := by
      have : t = 0 ∨ t = 1 ∨ t = 2 ∨ t = 3 := by omega
      rcases this with rfl | rfl | rfl | rfl <;> decide
    have e2 : rgL 0 (t : Int) = (List.range t).map fun i : Nat => D.int (i : Int) := by
      unfold rgL
      simp
    show (if RgOk 0 (t : Int) then mkL true (rgL 0 (t : Int)) S else .bad) = _
    rw [if_pos ok, e2]
    rfl
  by_cases h3 : (3 : Int) < ns.length
  · rw [if_pos h3] at emax
    exact ⟨3, by omega, fin 3 (by omega) emax⟩
  · rw [if_neg h3] at emax
    by_cases h1 : (ns.length : Int) > 1
    · rw [if_pos h1] at emax
      exact ⟨ns.length, by omega, fin _ (by omega) emax⟩
    · rw [if_neg h1] at emax
      exact ⟨1, by omega, fin 1 (by omega) emax⟩
end
theorem law_true {P : Program} {w : World} {K : PySem.W.Frag} {mg : Str → Option Value} {A : Ads} (T : TX P w K mg A) (ns : List Int) (_ : ns.length ≤ 63) : ∃ S, m_law A [.fz (ns.map D.int)] [] = .ok (.bl true) S := by
  obtain ⟨t, ht, er⟩ := rounds_ev A ns []
  have v0 : ∀ S, mVar 0 (enter 6 [.fz (ns.map D.int)]) S = .ok (.fz (ns.map D.int)) S := fun S => rfl
  obtain ⟨Γ', S', e, _⟩ := for_its (j := 1) (b := B_law_3 A) (Γ := enter 6 [.fz (ns.map D.int)]) (any_lst (call1 (v0 []) er)) (xs := (List.range t).map fun i : Nat => D.int (i : Int)) (by simp [lenS, dL]) (fun Γ S => (∀ S, mVar 0 Γ S = .ok (.fz (ns.map D.int)) S) ∧ 6 ≤ Γ.length) ⟨v0, by simp [enter]⟩ (fun Γ S _ i => by simp [itS, dL]) (fun x Γ S hx ⟨h0, hl⟩ => by
    obtain ⟨k, hk, rfl⟩ := List.mem_map.mp hx
    have hk := List.mem_range.mp hk
    obtain ⟨Γ', S', e, h0', hl'⟩ := law3_ev A T.ne_NoHand_NoDeed (ns := ns) (k := k) (by omega) (Γ := Γ.set 1 (some (.int (k : Int)))) (fun S => var_ne (by decide) h0 S) (fun S => var_set (by omega) S) (by rw [List.length_set]; exact hl) S
    exact ⟨Γ', S', e, h0', hl'⟩)
  refine ⟨S', ?_⟩
  unfold m_law
  exact run_ev (seq_ev e (ret_ev rfl))
end K01
end
set_option Elab.async false
open PySem PySem.W PyProof.Rows
set_option maxRecDepth 100000 in
set_option maxHeartbeats 0 in
theorem PySem.Challenge.cw_usesstaybound_k01_deeds_and_names_holds : PySem.Challenge.rw_usesstaybound_k01_deeds_and_names.Holds := by
  w_on; o_law; k_head; (case hw => w_witness2)
  k_fill
  refine K01.walk (l := PySem.Challenge.rw_usesstaybound_k01_deeds_and_names) rfl rfl (fun w h Y => PySem.W.km_in_of Y) ?F K01.law_true
  case F =>
    intro w mg fa h Y KX G hmg
    refine' K01.all_mk KX G hmg ?aC_NoDeed ?aC_NoHand ?aC_NoBook ?aC_NotClosed ?aC_Unseen ?aC_NoBody ?aC_NoStamp ?aC_NoStamps ?aC_NoMenu ?aC_NoPacket ?aC_NothingBack ?aC_NoHands ?aC_NoBranches ?aC_TooMany ?a__law_rounds ?l__law_rounds ?c__law_rounds ?k__law_rounds ?a__law_pool ?l__law_pool ?c__law_pool ?k__law_pool ?a__law_world ?l__law_world ?c__law_world ?k__law_world ?a__law_take ?l__law_take ?c__law_take ?k__law_take ?a__law_one ?l__law_one ?c__law_one ?k__law_one ?a__law_do ?l__law_do ?c__law_do ?k__law_do ?a__law_learn ?l__law_learn ?c__law_learn ?k__law_learn ?a__law_content ?l__law_content ?c__law_content ?k__law_content ?a__law_holders ?l__law_holders ?c__law_holders ?k__law_holders ?a__law_made_body ?l__law_made_body ?c__law_made_body ?k__law_made_body ?a__law_body ?l__law_body ?c__law_body ?k__law_body ?a__law_seen_deeds ?l__law_seen_deeds ?c__law_seen_deeds ?k__law_seen_deeds ?a__law_step ?l__law_step ?c__law_step ?k__law_step ?a__law_drawn ?l__law_drawn ?c__law_drawn ?k__law_drawn ?a__law_odd ?l__law_odd ?c__law_odd ?k__law_odd ?a__law_bent ?l__law_bent ?c__law_bent ?k__law_bent ?a_is_name ?l_is_name ?c_is_name ?k_is_name ?a_is_tuple_of ?l_is_tuple_of ?c_is_tuple_of ?k_is_tuple_of ?a_is_whole ?l_is_whole ?c_is_whole ?k_is_whole ?a_is_number ?l_is_number ?c_is_number ?k_is_number ?a_is_stamp ?l_is_stamp ?c_is_stamp ?k_is_stamp ?a_is_place_name ?l_is_place_name ?c_is_place_name ?k_is_place_name ?a_is_binder ?l_is_binder ?c_is_binder ?k_is_binder ?a_is_content ?l_is_content ?c_is_content ?k_is_content ?a_is_make ?l_is_make ?c_is_make ?k_is_make ?a_is_placing_body ?l_is_placing_body ?c_is_placing_body ?k_is_placing_body ?a_is_content_body ?l_is_content_body ?c_is_content_body ?k_is_content_body ?a_is_body ?l_is_body ?c_is_body ?k_is_body ?a_is_seen ?l_is_seen ?c_is_seen ?k_is_seen ?a_is_deed ?l_is_deed ?c_is_deed ?k_is_deed ?a_does_hold ?l_does_hold ?c_does_hold ?k_does_hold ?a__law_a_name ?l__law_a_name ?c__law_a_name ?k__law_a_name ?a__law_whole ?l__law_whole ?c__law_whole ?k__law_whole ?a__law_a_stamp ?l__law_a_stamp ?c__law_a_stamp ?k__law_a_stamp ?a__law_a_place ?l__law_a_place ?c__law_a_place ?k__law_a_place ?a__law_a_content ?l__law_a_content ?c__law_a_content ?k__law_a_content ?a__law_a_body ?l__law_a_body ?c__law_a_body ?k__law_a_body ?a__law_a_deed ?l__law_a_deed ?c__law_a_deed ?k__law_a_deed ?a__law_value_right ?l__law_value_right ?c__law_value_right ?k__law_value_right ?a__law_caught ?l__law_caught ?c__law_caught ?k__law_caught ?a_NoDeed___init__ ?i_NoDeed___init__ ?l_NoDeed___init__ ?c_NoDeed___init__ ?k_NoDeed___init__ ?a_check_deed ?l_check_deed ?c_check_deed ?k_check_deed ?a_is_mark ?l_is_mark ?c_is_mark ?k_is_mark ?a_in_stamp_order ?l_in_stamp_order ?c_in_stamp_order ?k_in_stamp_order ?a_names_in ?l_names_in ?c_names_in ?k_names_in ?a_named_by ?l_named_by ?c_named_by ?k_named_by ?a__law_stamps ?l__law_stamps ?c__law_stamps ?k__law_stamps ?a__law_names ?l__law_names ?c__law_names ?k__law_names ?a_NoHand___init__ ?i_NoHand___init__ ?l_NoHand___init__ ?c_NoHand___init__ ?k_NoHand___init__ ?a_check_hand ?l_check_hand ?c_check_hand ?k_check_hand ?a_time_seen ?l_time_seen ?c_time_seen ?k_time_seen ?a__law_deed_right ?l__law_deed_right ?c__law_deed_right ?cl__law_deed_right ?cp__law_deed_right ?ch__law_deed_right ?tn__law_deed_right ?tb__law_deed_right ?k__law_deed_right ?a_law ?l_law ?c_law ?cl_law ?cp_law ?ch_law ?tn_law ?tb_law ?k_law ?ag_HOLDERS ?lg_HOLDERS ?ag_MARK_WORDS ?lg_MARK_WORDS ?ag_MOST_HAND ?ag_MOST_KEY ?ag_MOST_TIME ?ag_MOST_VALUE ?ag_NAME_LETTERS ?ag_ROOT ?lg_ROOT ?ab_all ?ab_bool ?ab_dict ?ab_int ?ab_isinstance ?ab_len ?ab_list ?ab_max ?ab_min ?ab_range ?ab_repr ?ab_sorted ?ab_str ?ab_tuple ?asup ?aany ?htop ?xl_NoDeed ?xr_NoDeed ?xs_NoDeed ?xb_NoDeed ?xt_NoDeed ?xk_NoDeed ?xv_NoDeed ?xu_NoDeed ?xm_NoDeed ?xn_NoDeed ?xy_NoDeed ?xa_NoDeed ?xg_NoDeed ?xh_NoDeed ?xc_NoDeed ?xf_NoDeed ?xi_NoDeed ?xe_NoDeed ?xD_NoDeed ?xz_NoDeed_NoDeed ?xz_NoDeed_NoHand ?xl_NoHand ?xr_NoHand ?xs_NoHand ?xb_NoHand ?xt_NoHand ?xk_NoHand ?xv_NoHand ?xu_NoHand ?xm_NoHand ?xn_NoHand ?xy_NoHand ?xa_NoHand ?xg_NoHand ?xh_NoHand ?xc_NoHand ?xf_NoHand ?xi_NoHand ?xe_NoHand ?xD_NoHand ?xz_NoHand_NoDeed ?xz_NoHand_NoHand ?xb_NoBook ?xt_NoBook ?xD_NoBook ?xz_NoDeed_NoBook ?xz_NoHand_NoBook ?xb_NotClosed ?xt_NotClosed ?xD_NotClosed ?xz_NoDeed_NotClosed ?xz_NoHand_NotClosed ?xb_Unseen ?xt_Unseen ?xD_Unseen ?xz_NoDeed_Unseen ?xz_NoHand_Unseen ?xb_NoBody ?xt_NoBody ?xD_NoBody ?xz_NoDeed_NoBody ?xz_NoHand_NoBody ?xb_NoStamp ?xt_NoStamp ?xD_NoStamp ?xz_NoDeed_NoStamp ?xz_NoHand_NoStamp ?xb_NoStamps ?xt_NoStamps ?xD_NoStamps ?xz_NoDeed_NoStamps ?xz_NoHand_NoStamps ?xb_NoMenu ?xt_NoMenu ?xD_NoMenu ?xz_NoDeed_NoMenu ?xz_NoHand_NoMenu ?xb_NoPacket ?xt_NoPacket ?xD_NoPacket ?xz_NoDeed_NoPacket ?xz_NoHand_NoPacket ?xb_NothingBack ?xt_NothingBack ?xD_NothingBack ?xz_NoDeed_NothingBack ?xz_NoHand_NothingBack ?xb_NoHands ?xt_NoHands ?xD_NoHands ?xz_NoDeed_NoHands ?xz_NoHand_NoHands ?xb_NoBranches ?xt_NoBranches ?xD_NoBranches ?xz_NoDeed_NoBranches ?xz_NoHand_NoBranches ?xb_TooMany ?xt_TooMany ?xD_TooMany ?xz_NoDeed_TooMany ?xz_NoHand_TooMany ?pn_law__law_deed_right ?ne_NoHand_NoDeed ?ne_NoBook_NoDeed ?ne_NoBook_NoHand ?ne_NotClosed_NoDeed ?ne_NotClosed_NoHand ?ne_NotClosed_NoBook ?ne_Unseen_NoDeed ?ne_Unseen_NoHand ?ne_Unseen_NoBook ?ne_Unseen_NotClosed ?ne_NoBody_NoDeed ?ne_NoBody_NoHand ?ne_NoBody_NoBook ?ne_NoBody_NotClosed ?ne_NoBody_Unseen ?ne_NoStamp_NoDeed ?ne_NoStamp_NoHand ?ne_NoStamp_NoBook ?ne_NoStamp_NotClosed ?ne_NoStamp_Unseen ?ne_NoStamp_NoBody ?ne_NoStamps_NoDeed ?ne_NoStamps_NoHand ?ne_NoStamps_NoBook ?ne_NoStamps_NotClosed ?ne_NoStamps_Unseen ?ne_NoStamps_NoBody ?ne_NoStamps_NoStamp ?ne_NoMenu_NoDeed ?ne_NoMenu_NoHand ?ne_NoMenu_NoBook ?ne_NoMenu_NotClosed ?ne_NoMenu_Unseen ?ne_NoMenu_NoBody ?ne_NoMenu_NoStamp ?ne_NoMenu_NoStamps ?ne_NoPacket_NoDeed ?ne_NoPacket_NoHand ?ne_NoPacket_NoBook ?ne_NoPacket_NotClosed ?ne_NoPacket_Unseen ?ne_NoPacket_NoBody ?ne_NoPacket_NoStamp ?ne_NoPacket_NoStamps ?ne_NoPacket_NoMenu ?ne_NothingBack_NoDeed ?ne_NothingBack_NoHand ?ne_NothingBack_NoBook ?ne_NothingBack_NotClosed ?ne_NothingBack_Unseen ?ne_NothingBack_NoBody ?ne_NothingBack_NoStamp ?ne_NothingBack_NoStamps ?ne_NothingBack_NoMenu ?ne_NothingBack_NoPacket ?ne_NoHands_NoDeed ?ne_NoHands_NoHand ?ne_NoHands_NoBook ?ne_NoHands_NotClosed ?ne_NoHands_Unseen ?ne_NoHands_NoBody ?ne_NoHands_NoStamp ?ne_NoHands_NoStamps ?ne_NoHands_NoMenu ?ne_NoHands_NoPacket ?ne_NoHands_NothingBack ?ne_NoBranches_NoDeed ?ne_NoBranches_NoHand ?ne_NoBranches_NoBook ?ne_NoBranches_NotClosed ?ne_NoBranches_Unseen ?ne_NoBranches_NoBody ?ne_NoBranches_NoStamp ?ne_NoBranches_NoStamps ?ne_NoBranches_NoMenu ?ne_NoBranches_NoPacket ?ne_NoBranches_NothingBack ?ne_NoBranches_NoHands ?ne_TooMany_NoDeed ?ne_TooMany_NoHand ?ne_TooMany_NoBook ?ne_TooMany_NotClosed ?ne_TooMany_Unseen ?ne_TooMany_NoBody ?ne_TooMany_NoStamp ?ne_TooMany_NoStamps ?ne_TooMany_NoMenu ?ne_TooMany_NoPacket ?ne_TooMany_NothingBack ?ne_TooMany_NoHands ?ne_TooMany_NoBranches
    (case aC_NoDeed => k_is)
    (case aC_NoHand => k_is)
    (case aC_NoBook => k_is)
    (case aC_NotClosed => k_is)
    (case aC_Unseen => k_is)
    (case aC_NoBody => k_is)
    (case aC_NoStamp => k_is)
    (case aC_NoStamps => k_is)
    (case aC_NoMenu => k_is)
    (case aC_NoPacket => k_is)
    (case aC_NothingBack => k_is)
    (case aC_NoHands => k_is)
    (case aC_NoBranches => k_is)
    (case aC_TooMany => k_is)
    (case a__law_rounds => k_is)
    (case l__law_rounds => k_is)
    (case c__law_rounds => k_is)
    (case k__law_rounds => k_is)
    (case a__law_pool => k_is)
    (case l__law_pool => k_is)
    (case c__law_pool => k_is)
    (case k__law_pool => k_is)
    (case a__law_world => k_is)
    (case l__law_world => k_is)
    (case c__law_world => k_is)
    (case k__law_world => k_is)
    (case a__law_take => k_is)
    (case l__law_take => k_is)
    (case c__law_take => k_is)
    (case k__law_take => k_is)
    (case a__law_one => k_is)
    (case l__law_one => k_is)
    (case c__law_one => k_is)
    (case k__law_one => k_is)
    (case a__law_do => k_is)
    (case l__law_do => k_is)
    (case c__law_do => k_is)
    (case k__law_do => k_is)
    (case a__law_learn => k_is)
    (case l__law_learn => k_is)
    (case c__law_learn => k_is)
    (case k__law_learn => k_is)
    (case a__law_content => k_is)
    (case l__law_content => k_is)
    (case c__law_content => k_is)
    (case k__law_content => k_is)
    (case a__law_holders => k_is)
    (case l__law_holders => k_is)
    (case c__law_holders => k_is)
    (case k__law_holders => k_is)
    (case a__law_made_body => k_is)
    (case l__law_made_body => k_is)
    (case c__law_made_body => k_is)
    (case k__law_made_body => k_is)
    (case a__law_body => k_is)
    (case l__law_body => k_is)
    (case c__law_body => k_is)
    (case k__law_body => k_is)
    (case a__law_seen_deeds => k_is)
    (case l__law_seen_deeds => k_is)
    (case c__law_seen_deeds => k_is)
    (case k__law_seen_deeds => k_is)
    (case a__law_step => k_is)
    (case l__law_step => k_is)
    (case c__law_step => k_is)
    (case k__law_step => k_is)
    (case a__law_drawn => k_is)
    (case l__law_drawn => k_is)
    (case c__law_drawn => k_is)
    (case k__law_drawn => k_is)
    (case a__law_odd => k_is)
    (case l__law_odd => k_is)
    (case c__law_odd => k_is)
    (case k__law_odd => k_is)
    (case a__law_bent => k_is)
    (case l__law_bent => k_is)
    (case c__law_bent => k_is)
    (case k__law_bent => k_is)
    (case a_is_name => k_is)
    (case l_is_name => k_is)
    (case c_is_name => k_is)
    (case k_is_name => k_is)
    (case a_is_tuple_of => k_is)
    (case l_is_tuple_of => k_is)
    (case c_is_tuple_of => k_is)
    (case k_is_tuple_of => k_is)
    (case a_is_whole => k_is)
    (case l_is_whole => k_is)
    (case c_is_whole => k_is)
    (case k_is_whole => k_is)
    (case a_is_number => k_is)
    (case l_is_number => k_is)
    (case c_is_number => k_is)
    (case k_is_number => k_is)
    (case a_is_stamp => k_is)
    (case l_is_stamp => k_is)
    (case c_is_stamp => k_is)
    (case k_is_stamp => k_is)
    (case a_is_place_name => k_is)
    (case l_is_place_name => k_is)
    (case c_is_place_name => k_is)
    (case k_is_place_name => k_is)
    (case a_is_binder => k_is)
    (case l_is_binder => k_is)
    (case c_is_binder => k_is)
    (case k_is_binder => k_is)
    (case a_is_content => k_is)
    (case l_is_content => k_is)
    (case c_is_content => k_is)
    (case k_is_content => k_is)
    (case a_is_make => k_is)
    (case l_is_make => k_is)
    (case c_is_make => k_is)
    (case k_is_make => k_is)
    (case a_is_placing_body => k_is)
    (case l_is_placing_body => k_is)
    (case c_is_placing_body => k_is)
    (case k_is_placing_body => k_is)
    (case a_is_content_body => k_is)
    (case l_is_content_body => k_is)
    (case c_is_content_body => k_is)
    (case k_is_content_body => k_is)
    (case a_is_body => k_is)
    (case l_is_body => k_is)
    (case c_is_body => k_is)
    (case k_is_body => k_is)
    (case a_is_seen => k_is)
    (case l_is_seen => k_is)
    (case c_is_seen => k_is)
    (case k_is_seen => k_is)
    (case a_is_deed => k_is)
    (case l_is_deed => k_is)
    (case c_is_deed => k_is)
    (case k_is_deed => k_is)
    (case a_does_hold => k_is)
    (case l_does_hold => k_is)
    (case c_does_hold => k_is)
    (case k_does_hold => k_is)
    (case a__law_a_name => k_is)
    (case l__law_a_name => k_is)
    (case c__law_a_name => k_is)
    (case k__law_a_name => k_is)
    (case a__law_whole => k_is)
    (case l__law_whole => k_is)
    (case c__law_whole => k_is)
    (case k__law_whole => k_is)
    (case a__law_a_stamp => k_is)
    (case l__law_a_stamp => k_is)
    (case c__law_a_stamp => k_is)
    (case k__law_a_stamp => k_is)
    (case a__law_a_place => k_is)
    (case l__law_a_place => k_is)
    (case c__law_a_place => k_is)
    (case k__law_a_place => k_is)
    (case a__law_a_content => k_is)
    (case l__law_a_content => k_is)
    (case c__law_a_content => k_is)
    (case k__law_a_content => k_is)
    (case a__law_a_body => k_is)
    (case l__law_a_body => k_is)
    (case c__law_a_body => k_is)
    (case k__law_a_body => k_is)
    (case a__law_a_deed => k_is)
    (case l__law_a_deed => k_is)
    (case c__law_a_deed => k_is)
    (case k__law_a_deed => k_is)
    (case a__law_value_right => k_is)
    (case l__law_value_right => k_is)
    (case c__law_value_right => k_is)
    (case k__law_value_right => k_is)
    (case a__law_caught => k_is)
    (case l__law_caught => k_is)
    (case c__law_caught => k_is)
    (case k__law_caught => k_is)
    (case a_NoDeed___init__ => k_is)
    (case i_NoDeed___init__ => k_is)
    (case l_NoDeed___init__ => k_is)
    (case c_NoDeed___init__ => k_is)
    (case k_NoDeed___init__ => k_is)
    (case a_check_deed => k_is)
    (case l_check_deed => k_is)
    (case c_check_deed => k_is)
    (case k_check_deed => k_is)
    (case a_is_mark => k_is)
    (case l_is_mark => k_is)
    (case c_is_mark => k_is)
    (case k_is_mark => k_is)
    (case a_in_stamp_order => k_is)
    (case l_in_stamp_order => k_is)
    (case c_in_stamp_order => k_is)
    (case k_in_stamp_order => k_is)
    (case a_names_in => k_is)
    (case l_names_in => k_is)
    (case c_names_in => k_is)
    (case k_names_in => k_is)
    (case a_named_by => k_is)
    (case l_named_by => k_is)
    (case c_named_by => k_is)
    (case k_named_by => k_is)
    (case a__law_stamps => k_is)
    (case l__law_stamps => k_is)
    (case c__law_stamps => k_is)
    (case k__law_stamps => k_is)
    (case a__law_names => k_is)
    (case l__law_names => k_is)
    (case c__law_names => k_is)
    (case k__law_names => k_is)
    (case a_NoHand___init__ => k_is)
    (case i_NoHand___init__ => k_is)
    (case l_NoHand___init__ => k_is)
    (case c_NoHand___init__ => k_is)
    (case k_NoHand___init__ => k_is)
    (case a_check_hand => k_is)
    (case l_check_hand => k_is)
    (case c_check_hand => k_is)
    (case k_check_hand => k_is)
    (case a_time_seen => k_is)
    (case l_time_seen => k_is)
    (case c_time_seen => k_is)
    (case k_time_seen => k_is)
    (case a__law_deed_right => k_is)
    (case l__law_deed_right => k_is)
    (case c__law_deed_right => k_is)
    (case cl__law_deed_right => k_is)
    (case cp__law_deed_right => rfl)
    (case ch__law_deed_right => kernel_rfl)
    (case tn__law_deed_right => kernel_rfl)
    (case tb__law_deed_right => exact PySem.W.km_tabs_of Y _ (by k_mem))
    (case k__law_deed_right => k_is)
    (case a_law => k_is)
    (case l_law => k_is)
    (case c_law => k_is)
    (case cl_law => k_is)
    (case cp_law => rfl)
    (case ch_law => kernel_rfl)
    (case tn_law => kernel_rfl)
    (case tb_law => exact PySem.W.km_tabs_of Y _ (by k_mem))
    (case k_law => k_is)
    (case ag_HOLDERS => k_is)
    (case lg_HOLDERS => k_is)
    (case ag_MARK_WORDS => k_is)
    (case lg_MARK_WORDS => k_is)
    (case ag_MOST_HAND => k_is)
    (case ag_MOST_KEY => k_is)
    (case ag_MOST_TIME => k_is)
    (case ag_MOST_VALUE => k_is)
    (case ag_NAME_LETTERS => k_is)
    (case ag_ROOT => k_is)
    (case lg_ROOT => k_is)
    (case ab_all => k_is)
    (case ab_bool => k_is)
    (case ab_dict => k_is)
    (case ab_int => k_is)
    (case ab_isinstance => k_is)
    (case ab_len => k_is)
    (case ab_list => k_is)
    (case ab_max => k_is)
    (case ab_min => k_is)
    (case ab_range => k_is)
    (case ab_repr => k_is)
    (case ab_sorted => k_is)
    (case ab_str => k_is)
    (case ab_tuple => k_is)
    (case asup => k_is)
    (case aany => k_is)
    (case htop => decide +kernel)
    (case xl_NoDeed => k_is)
    (case xr_NoDeed => decide +kernel)
    (case xs_NoDeed => k_is)
    (case xb_NoDeed => k_is)
    (case xt_NoDeed => k_is)
    (case xk_NoDeed => k_is)
    (case xv_NoDeed => k_is)
    (case xu_NoDeed => ks_is)
    (case xm_NoDeed => k_is)
    (case xn_NoDeed => k_is)
    (case xy_NoDeed => k_is)
    (case xa_NoDeed => k_is)
    (case xg_NoDeed => k_is)
    (case xh_NoDeed => k_is)
    (case xc_NoDeed => k_is)
    (case xf_NoDeed => rfl)
    (case xi_NoDeed => decide +kernel)
    (case xe_NoDeed => k_is)
    (case xD_NoDeed => k_is)
    (case xz_NoDeed_NoDeed => k_is)
    (case xz_NoDeed_NoHand => k_is)
    (case xl_NoHand => k_is)
    (case xr_NoHand => decide +kernel)
    (case xs_NoHand => k_is)
    (case xb_NoHand => k_is)
    (case xt_NoHand => k_is)
    (case xk_NoHand => k_is)
    (case xv_NoHand => k_is)
    (case xu_NoHand => ks_is)
    (case xm_NoHand => k_is)
    (case xn_NoHand => k_is)
    (case xy_NoHand => k_is)
    (case xa_NoHand => k_is)
    (case xg_NoHand => k_is)
    (case xh_NoHand => k_is)
    (case xc_NoHand => k_is)
    (case xf_NoHand => rfl)
    (case xi_NoHand => decide +kernel)
    (case xe_NoHand => k_is)
    (case xD_NoHand => k_is)
    (case xz_NoHand_NoDeed => k_is)
    (case xz_NoHand_NoHand => k_is)
    (case xb_NoBook => k_is)
    (case xt_NoBook => k_is)
    (case xD_NoBook => k_is)
    (case xz_NoDeed_NoBook => k_is)
    (case xz_NoHand_NoBook => k_is)
    (case xb_NotClosed => k_is)
    (case xt_NotClosed => k_is)
    (case xD_NotClosed => k_is)
    (case xz_NoDeed_NotClosed => k_is)
    (case xz_NoHand_NotClosed => k_is)
    (case xb_Unseen => k_is)
    (case xt_Unseen => k_is)
    (case xD_Unseen => k_is)
    (case xz_NoDeed_Unseen => k_is)
    (case xz_NoHand_Unseen => k_is)
    (case xb_NoBody => k_is)
    (case xt_NoBody => k_is)
    (case xD_NoBody => k_is)
    (case xz_NoDeed_NoBody => k_is)
    (case xz_NoHand_NoBody => k_is)
    (case xb_NoStamp => k_is)
    (case xt_NoStamp => k_is)
    (case xD_NoStamp => k_is)
    (case xz_NoDeed_NoStamp => k_is)
    (case xz_NoHand_NoStamp => k_is)
    (case xb_NoStamps => k_is)
    (case xt_NoStamps => k_is)
    (case xD_NoStamps => k_is)
    (case xz_NoDeed_NoStamps => k_is)
    (case xz_NoHand_NoStamps => k_is)
    (case xb_NoMenu => k_is)
    (case xt_NoMenu => k_is)
    (case xD_NoMenu => k_is)
    (case xz_NoDeed_NoMenu => k_is)
    (case xz_NoHand_NoMenu => k_is)
    (case xb_NoPacket => k_is)
    (case xt_NoPacket => k_is)
    (case xD_NoPacket => k_is)
    (case xz_NoDeed_NoPacket => k_is)
    (case xz_NoHand_NoPacket => k_is)
    (case xb_NothingBack => k_is)
    (case xt_NothingBack => k_is)
    (case xD_NothingBack => k_is)
    (case xz_NoDeed_NothingBack => k_is)
    (case xz_NoHand_NothingBack => k_is)
    (case xb_NoHands => k_is)
    (case xt_NoHands => k_is)
    (case xD_NoHands => k_is)
    (case xz_NoDeed_NoHands => k_is)
    (case xz_NoHand_NoHands => k_is)
    (case xb_NoBranches => k_is)
    (case xt_NoBranches => k_is)
    (case xD_NoBranches => k_is)
    (case xz_NoDeed_NoBranches => k_is)
    (case xz_NoHand_NoBranches => k_is)
    (case xb_TooMany => k_is)
    (case xt_TooMany => k_is)
    (case xD_TooMany => k_is)
    (case xz_NoDeed_TooMany => k_is)
    (case xz_NoHand_TooMany => k_is)
    (case pn_law__law_deed_right => decide)
    (case ne_NoHand_NoDeed => decide)
    (case ne_NoBook_NoDeed => decide)
    (case ne_NoBook_NoHand => decide)
    (case ne_NotClosed_NoDeed => decide)
    (case ne_NotClosed_NoHand => decide)
    (case ne_NotClosed_NoBook => decide)
    (case ne_Unseen_NoDeed => decide)
    (case ne_Unseen_NoHand => decide)
    (case ne_Unseen_NoBook => decide)
    (case ne_Unseen_NotClosed => decide)
    (case ne_NoBody_NoDeed => decide)
    (case ne_NoBody_NoHand => decide)
    (case ne_NoBody_NoBook => decide)
    (case ne_NoBody_NotClosed => decide)
    (case ne_NoBody_Unseen => decide)
    (case ne_NoStamp_NoDeed => decide)
    (case ne_NoStamp_NoHand => decide)
    (case ne_NoStamp_NoBook => decide)
    (case ne_NoStamp_NotClosed => decide)
    (case ne_NoStamp_Unseen => decide)
    (case ne_NoStamp_NoBody => decide)
    (case ne_NoStamps_NoDeed => decide)
    (case ne_NoStamps_NoHand => decide)
    (case ne_NoStamps_NoBook => decide)
    (case ne_NoStamps_NotClosed => decide)
    (case ne_NoStamps_Unseen => decide)
    (case ne_NoStamps_NoBody => decide)
    (case ne_NoStamps_NoStamp => decide)
    (case ne_NoMenu_NoDeed => decide)
    (case ne_NoMenu_NoHand => decide)
    (case ne_NoMenu_NoBook => decide)
    (case ne_NoMenu_NotClosed => decide)
    (case ne_NoMenu_Unseen => decide)
    (case ne_NoMenu_NoBody => decide)
    (case ne_NoMenu_NoStamp => decide)
    (case ne_NoMenu_NoStamps => decide)
    (case ne_NoPacket_NoDeed => decide)
    (case ne_NoPacket_NoHand => decide)
    (case ne_NoPacket_NoBook => decide)
    (case ne_NoPacket_NotClosed => decide)
    (case ne_NoPacket_Unseen => decide)
    (case ne_NoPacket_NoBody => decide)
    (case ne_NoPacket_NoStamp => decide)
    (case ne_NoPacket_NoStamps => decide)
    (case ne_NoPacket_NoMenu => decide)
    (case ne_NothingBack_NoDeed => decide)
    (case ne_NothingBack_NoHand => decide)
    (case ne_NothingBack_NoBook => decide)
    (case ne_NothingBack_NotClosed => decide)
    (case ne_NothingBack_Unseen => decide)
    (case ne_NothingBack_NoBody => decide)
    (case ne_NothingBack_NoStamp => decide)
    (case ne_NothingBack_NoStamps => decide)
    (case ne_NothingBack_NoMenu => decide)
    (case ne_NothingBack_NoPacket => decide)
    (case ne_NoHands_NoDeed => decide)
    (case ne_NoHands_NoHand => decide)
    (case ne_NoHands_NoBook => decide)
    (case ne_NoHands_NotClosed => decide)
    (case ne_NoHands_Unseen => decide)
    (case ne_NoHands_NoBody => decide)
    (case ne_NoHands_NoStamp => decide)
    (case ne_NoHands_NoStamps => decide)
    (case ne_NoHands_NoMenu => decide)
    (case ne_NoHands_NoPacket => decide)
    (case ne_NoHands_NothingBack => decide)
    (case ne_NoBranches_NoDeed => decide)
    (case ne_NoBranches_NoHand => decide)
    (case ne_NoBranches_NoBook => decide)
    (case ne_NoBranches_NotClosed => decide)
    (case ne_NoBranches_Unseen => decide)
    (case ne_NoBranches_NoBody => decide)
    (case ne_NoBranches_NoStamp => decide)
    (case ne_NoBranches_NoStamps => decide)
    (case ne_NoBranches_NoMenu => decide)
    (case ne_NoBranches_NoPacket => decide)
    (case ne_NoBranches_NothingBack => decide)
    (case ne_NoBranches_NoHands => decide)
    (case ne_TooMany_NoDeed => decide)
    (case ne_TooMany_NoHand => decide)
    (case ne_TooMany_NoBook => decide)
    (case ne_TooMany_NotClosed => decide)
    (case ne_TooMany_Unseen => decide)
    (case ne_TooMany_NoBody => decide)
    (case ne_TooMany_NoStamp => decide)
    (case ne_TooMany_NoStamps => decide)
    (case ne_TooMany_NoMenu => decide)
    (case ne_TooMany_NoPacket => decide)
    (case ne_TooMany_NothingBack => decide)
    (case ne_TooMany_NoHands => decide)
    (case ne_TooMany_NoBranches => decide)
