import PyProof.Rows.All
import Wide.All
import OpenK.AllK
import Wide.FinOn
import HandS.ForMost
import HandS.ForExc
import HandS.Star
import HandS.More
import HandS.TupAny
import HandS.IsInst
import HandS.TryMany
import HandS.ExcField
import HandS.ExcInit
import HandS.Nested
import KE.KExcSuper
import HandS.FStrTup
import HandS.RaiseMore
import HandS.Dict
import HandS.Text
import PySem.Challenge.RW_usesstaybound_k68_spans_and_items_of_tex
section
set_option Elab.async false
set_option linter.all false
set_option maxRecDepth 100000
set_option maxHeartbeats 2000000
namespace Fx
open PySem PySem.Spec PyProof.Rows L2

/-! ## data, the store, results -/
inductive D where
  | non | bl (b : Bool) | int (i : Int) | str (s : Str) | tup (xs : List D) | lst (xs : List D) | fz (xs : List D)
  | ref (n : Nat) | opq (n : Nat) | adr (a : Addr) | dct (ks : List Key) (vs : List D)
  deriving Inhabited
/-- a mutable object -/
inductive O where
  | lst (xs : List D) | ins (C : Addr) (fs : List (Str × D)) | dead
  deriving Inhabited
abbrev Sto := List O
abbrev En := List (Option D)
inductive Res (α : Type) where
  | ok (a : α) (S : Sto)
  | exc (c : Addr) (fs : List (Str × D)) (S : Sto)
  | bad
def Res.bind {α β : Type} (r : Res α) (f : α → Sto → Res β) : Res β := match r with
  | .ok a S => f a S
  | .exc c fs S => .exc c fs S
  | .bad => .bad
@[simp] theorem Res.bind_ok {α β : Type} (a : α) (S : Sto) (f : α → Sto → Res β) : (Res.ok a S).bind f = f a S := rfl
@[simp] theorem Res.bind_exc {α β : Type} (c : Addr) (fs : List (Str × D)) (S : Sto) (f : α → Sto → Res β) : (Res.exc c fs S : Res α).bind f = .exc c fs S := rfl
@[simp] theorem Res.bind_bad {α β : Type} (f : α → Sto → Res β) : (Res.bad : Res α).bind f = .bad := rfl
abbrev Ed := En → Sto → Res D
abbrev Bd := En → Sto → Res Bool
abbrev Ad := En → Sto → Res (List D)
inductive SR where
  | nx (Γ : En) (S : Sto) | rt (d : D) (S : Sto) | bk (Γ : En) (S : Sto) | ct (Γ : En) (S : Sto)
  | ex (c : Addr) (fs : List (Str × D)) (Γ : En) (S : Sto) | bad
abbrev Sd := En → Sto → SR
abbrev Fn := List D → Sto → Res D

/-! ## what stands for what -/
structure Wd where
  r : List Addr
  F : Hp
  H : Hp
mutual
inductive Rep (K : PySem.W.Frag) (r : List Addr) (F : Hp) : V → D → Prop
  | non : Rep K r F .non .non
  | bl (b : Bool) : Rep K r F (.bl b) (.bl b)
  | int (i : Int) : Rep K r F (.int i) (.int i)
  | str (x : Str) : Rep K r F (.str x) (.str x)
  | tup {a : Addr} {vs : List V} {ds : List D} : SqT K F a vs → Reps K r F vs ds → Rep K r F (.ref a) (.tup ds)
  | lst {a : Addr} {vs : List V} {ds : List D} : F a = some (.lst vs) → Reps K r F vs ds → Rep K r F (.ref a) (.lst ds)
  | fz {a : Addr} {vs : List V} {ds : List D} : SqL K F a vs → Reps K r F vs ds → Rep K r F (.ref a) (.fz ds)
  | ref {a : Addr} {n : Nat} : r[n]? = some a → Rep K r F (.ref a) (.ref n)
  | opq {x : Str} {n : Nat} : x.length ≤ n → Rep K r F (.str x) (.opq n)
  | adr (a : Addr) : Rep K r F (.ref a) (.adr a)
  | dct {a : Addr} {kvs : List (Key × V)} {ks : List Key} {vs : List V} {ds : List D} : F a = some (.dK kvs) → kvs = ks.zip vs → ks.length = vs.length → Reps K r F vs ds → Rep K r F (.ref a) (.dct ks ds)
inductive Reps (K : PySem.W.Frag) (r : List Addr) (F : Hp) : List V → List D → Prop
  | nil : Reps K r F [] []
  | cons {v : V} {vs : List V} {d : D} {ds : List D} : Rep K r F v d → Reps K r F vs ds → Reps K r F (v :: vs) (d :: ds)
end
def Fld (K : PySem.W.Frag) (r : List Addr) (F : Hp) : List (Str × V) → List (Str × D) → Prop := Paired fun p q => p.1 = q.1 ∧ Rep K r F p.2 q.2
def RepO (K : PySem.W.Frag) (r : List Addr) (F H : Hp) (a : Addr) : O → Prop
  | .lst ds => ∃ vs, H a = some (.lst vs) ∧ Reps K r F vs ds
  | .ins C fs => ∃ dx vs, H a = some (.ins C dx vs) ∧ Fld K r F vs fs
  | .dead => True
def SubH (F F' : Hp) : Prop := ∀ a o, F a = some o → F' a = some o
theorem SubH.refl (F : Hp) : SubH F F := fun _ _ h => h
theorem SubH.trans {F G I : Hp} (a : SubH F G) (b : SubH G I) : SubH F I := fun x o h => b x o (a x o h)
structure Wd.Ok (K : PySem.W.Frag) (w : Wd) (S : Sto) : Prop where
  sub : SubH w.F w.H
  len : w.r.length = S.length
  nd : w.r.Nodup
  obj : ∀ (n : Nat) (o : O) (a : Addr), S[n]? = some o → w.r[n]? = some a → RepO K w.r w.F w.H a o
  out : ∀ (n : Nat) (o : O) (a : Addr), S[n]? = some o → w.r[n]? = some a → o ≠ .dead → w.F a = none
  there : ∀ (n : Nat) (a : Addr), w.r[n]? = some a → w.H a ≠ none
structure Step (w w' : Wd) : Prop where
  pre : w.r <+: w'.r
  sub : SubH w.F w'.F
  frame : ∀ a o, w.H a = some o → a ∉ w.r → w'.H a = some o
  newr : ∀ a, a ∈ w'.r → a ∈ w.r ∨ w.H a = none
  newF : ∀ a, w'.F a ≠ none → w.F a ≠ none ∨ w.H a = none ∨ a ∈ w.r
theorem Step.refl (w : Wd) : Step w w := ⟨List.prefix_refl _, SubH.refl _, fun _ _ h _ => h, fun _ h => .inl h, fun _ h => .inl h⟩
theorem Step.trans {u v w : Wd} (a : Step u v) (b : Step v w) : Step u w where
  pre := a.pre.trans b.pre
  sub := a.sub.trans b.sub
  frame x o h n := by
    have h1 := a.frame x o h n
    refine b.frame x o h1 fun hm => ?_
    rcases a.newr x hm with h2 | h2
    · exact n h2
    · rw [h2] at h; cases h
  newr x hx := by
    rcases b.newr x hx with h | h
    · exact a.newr x h
    · by_cases hm : x ∈ u.r
      · exact .inl hm
      · cases e : u.H x with
        | none => exact .inr rfl
        | some o => rw [a.frame x o e hm] at h; cases h
  newF x hx := by
    rcases b.newF x hx with h | h | h
    · exact a.newF x h
    · by_cases hm : x ∈ u.r
      · exact .inr (.inr hm)
      · cases e : u.H x with
        | none => exact .inr (.inl rfl)
        | some o => rw [a.frame x o e hm] at h; cases h
    · rcases a.newr x h with h | h
      · exact .inr (.inr h)
      · exact .inr (.inl h)
theorem rd_sub {F F' : Hp} (s : SubH F F') {a : Addr} {u : HO} (h : Rd F a u) : Rd F' a u := by
  rcases h with h | ⟨o, h⟩
  · exact .inl (s _ _ h)
  · exact .inr ⟨o, s _ _ h⟩
theorem sqT_sub {K : PySem.W.Frag} {F F' : Hp} (s : SubH F F') {a : Addr} {xs : List V} (h : SqT K F a xs) : SqT K F' a xs := h.imp (rd_sub s) id
theorem sqL_sub {K : PySem.W.Frag} {F F' : Hp} (s : SubH F F') {a : Addr} {xs : List V} (h : SqL K F a xs) : SqL K F' a xs := h.imp (rd_sub s) id
theorem pre_get {α : Type} {l l' : List α} (h : l <+: l') {n : Nat} {a : α} (e : l[n]? = some a) : l'[n]? = some a := by
  obtain ⟨t, rfl⟩ := h
  rw [List.getElem?_append_left]
  · exact e
  · exact (List.getElem?_eq_some_iff.mp e).1
mutual
theorem Rep.up {K : PySem.W.Frag} {r r' : List Addr} {F F' : Hp} (p : r <+: r') (s : SubH F F') : ∀ {v : V} {d : D}, Rep K r F v d → Rep K r' F' v d
  | _, _, .non => .non
  | _, _, .bl b => .bl b
  | _, _, .int i => .int i
  | _, _, .str x => .str x
  | _, _, .tup h hs => .tup (sqT_sub s h) (Reps.up p s hs)
  | _, _, .lst h hs => .lst (s _ _ h) (Reps.up p s hs)
  | _, _, .fz h hs => .fz (sqL_sub s h) (Reps.up p s hs)
  | _, _, .ref h => .ref (pre_get p h)
  | _, _, .opq h => .opq h
  | _, _, .adr a => .adr a
  | _, _, .dct h e z hs => .dct (s _ _ h) e z (Reps.up p s hs)
theorem Reps.up {K : PySem.W.Frag} {r r' : List Addr} {F F' : Hp} (p : r <+: r') (s : SubH F F') : ∀ {v : List V} {d : List D}, Reps K r F v d → Reps K r' F' v d
  | _, _, .nil => .nil
  | _, _, .cons h hs => .cons (Rep.up p s h) (Reps.up p s hs)
end
theorem Fld.up {K : PySem.W.Frag} {r r' : List Addr} {F F' : Hp} (p : r <+: r') (s : SubH F F') {vs : List (Str × V)} {fs : List (Str × D)} (h : Fld K r F vs fs) : Fld K r' F' vs fs :=
  Paired.mapP h fun _ _ q => ⟨q.1, q.2.up p s⟩
theorem Reps.len {K : PySem.W.Frag} {r : List Addr} {F : Hp} : ∀ {vs : List V} {ds : List D}, Reps K r F vs ds → vs.length = ds.length
  | _, _, .nil => rfl
  | _, _, .cons _ h => congrArg (· + 1) h.len
theorem Reps.get {K : PySem.W.Frag} {r : List Addr} {F : Hp} : ∀ {vs : List V} {ds : List D} {i : Nat} {d : D}, Reps K r F vs ds → ds[i]? = some d → ∃ v, vs[i]? = some v ∧ Rep K r F v d
  | _, _, _, _, .nil, e => by simp at e
  | _, _, 0, d, .cons h _, e => by simp at e; subst e; exact ⟨_, rfl, h⟩
  | _, _, i + 1, d, .cons _ h, e => by
    obtain ⟨v, h1, h2⟩ := Reps.get (i := i) h (by simpa using e)
    exact ⟨v, by simpa using h1, h2⟩
theorem Reps.get' {K : PySem.W.Frag} {r : List Addr} {F : Hp} : ∀ {vs : List V} {ds : List D} {i : Nat} {v : V}, Reps K r F vs ds → vs[i]? = some v → ∃ d, ds[i]? = some d ∧ Rep K r F v d
  | _, _, _, _, .nil, e => by simp at e
  | _, _, 0, d, .cons h _, e => by simp at e; subst e; exact ⟨_, rfl, h⟩
  | _, _, i + 1, d, .cons _ h, e => by
    obtain ⟨v, h1, h2⟩ := Reps.get' (i := i) h (by simpa using e)
    exact ⟨v, by simpa using h1, h2⟩
theorem Reps.app {K : PySem.W.Frag} {r : List Addr} {F : Hp} : ∀ {vs us : List V} {ds es : List D}, Reps K r F vs ds → Reps K r F us es → Reps K r F (vs ++ us) (ds ++ es)
  | _, _, _, _, .nil, h => h
  | _, _, _, _, .cons a b, h => .cons a (Reps.app b h)
theorem Reps.take {K : PySem.W.Frag} {r : List Addr} {F : Hp} : ∀ {vs : List V} {ds : List D} (n : Nat), Reps K r F vs ds → Reps K r F (vs.take n) (ds.take n)
  | _, _, 0, _ => .nil
  | _, _, _ + 1, .nil => .nil
  | _, _, n + 1, .cons a b => .cons a (Reps.take n b)
theorem Reps.drop {K : PySem.W.Frag} {r : List Addr} {F : Hp} : ∀ {vs : List V} {ds : List D} (n : Nat), Reps K r F vs ds → Reps K r F (vs.drop n) (ds.drop n)
  | _, _, 0, h => h
  | _, _, _ + 1, .nil => .nil
  | _, _, n + 1, .cons _ b => Reps.drop n b
theorem Reps.set {K : PySem.W.Frag} {r : List Addr} {F : Hp} : ∀ {vs : List V} {ds : List D} (n : Nat) {v : V} {d : D}, Rep K r F v d → Reps K r F vs ds → Reps K r F (vs.set n v) (ds.set n d)
  | _, _, _, _, _, _, .nil => .nil
  | _, _, 0, _, _, h, .cons _ b => .cons h b
  | _, _, n + 1, _, _, h, .cons a b => .cons a (Reps.set n h b)
theorem Reps.dropLast {K : PySem.W.Frag} {r : List Addr} {F : Hp} {vs : List V} {ds : List D} (h : Reps K r F vs ds) : Reps K r F vs.dropLast ds.dropLast := by
  rw [List.dropLast_eq_take, List.dropLast_eq_take, h.len]
  exact h.take _

/-- a base: a world that is behind, and what is known of the slots -/
structure Bs where
  w : Wd
  P : L2.St → Prop
def Keeps (B : Bs) (i : Nat) : Prop := ∀ (σ : L2.St) (v : Option V), B.P σ → B.P (σ.set i v)

/-! ## what a reading of a result is -/
section
variable (K : PySem.W.Frag)
def ExAt (w : Wd) (dx : Addr) (vs : List (Str × V)) : Prop := w.H dx = some (.xd vs) ∧ dx ∉ w.r ∧ w.F dx = none
def EnOk (B : Bs) (w : Wd) (Γ : En) (σ : L2.St) : Prop := (Step B.w w ∧ B.P σ) ∧ Γ.length = σ.length ∧ ∀ (i : Nat) (d : D), Γ[i]? = some (some d) → ∃ v, σ[i]? = some (some v) ∧ Rep K w.r w.F v d
def PoE (W : WX) (w : Wd) (σ : L2.St) (r : Res D) (Q : VK) : Prop := match r with
  | .ok d S' => ∀ w' v, Step w w' → w'.Ok K S' → Rep K w'.r w'.F v d → Q v w'.H
  | .exc c fs S' => ∀ w' dx vs, Step w w' → w'.Ok K S' → ExAt w' dx vs → Fld K w'.r w'.F vs fs → W (.ref c) (some dx) σ w'.H
  | .bad => False
def PoB (W : WX) (w : Wd) (σ : L2.St) (r : Res Bool) (Q : Bool → Hp → Prop) : Prop := match r with
  | .ok b S' => ∀ w', Step w w' → w'.Ok K S' → Q b w'.H
  | .exc c fs S' => ∀ w' dx vs, Step w w' → w'.Ok K S' → ExAt w' dx vs → Fld K w'.r w'.F vs fs → W (.ref c) (some dx) σ w'.H
  | .bad => False
def PoA (W : WX) (w : Wd) (σ : L2.St) (r : Res (List D)) (Q : List V → Hp → Prop) : Prop := match r with
  | .ok ds S' => ∀ w' vs, Step w w' → w'.Ok K S' → Reps K w'.r w'.F vs ds → Q vs w'.H
  | .exc c fs S' => ∀ w' dx vs, Step w w' → w'.Ok K S' → ExAt w' dx vs → Fld K w'.r w'.F vs fs → W (.ref c) (some dx) σ w'.H
  | .bad => False
def PoS (B : Bs) (W : WX) (w : Wd) (r : SR) (E : Ends) : Prop := match r with
  | .nx Γ S' => ∀ w' σ', Step w w' → w'.Ok K S' → EnOk K B w' Γ σ' → E.nx σ' w'.H
  | .bk Γ S' => ∀ w' σ', Step w w' → w'.Ok K S' → EnOk K B w' Γ σ' → E.bk σ' w'.H
  | .ct Γ S' => ∀ w' σ', Step w w' → w'.Ok K S' → EnOk K B w' Γ σ' → E.ct σ' w'.H
  | .rt d S' => ∀ w' v, Step w w' → w'.Ok K S' → Rep K w'.r w'.F v d → E.rt v w'.H
  | .ex c fs Γ S' => ∀ w' σ' dx vs, Step w w' → w'.Ok K S' → EnOk K B w' Γ σ' → ExAt w' dx vs → Fld K w'.r w'.F vs fs → W (.ref c) (some dx) σ' w'.H
  | .bad => False
def cE (B : Bs) (W : WX) (m : Ed) : TE := fun σ H Q => ∃ r F Γ S, Wd.Ok K ⟨r, F, H⟩ S ∧ EnOk K B ⟨r, F, H⟩ Γ σ ∧ PoE K W ⟨r, F, H⟩ σ (m Γ S) Q
def cB (B : Bs) (W : WX) (m : Bd) : TT := fun σ H Q => ∃ r F Γ S, Wd.Ok K ⟨r, F, H⟩ S ∧ EnOk K B ⟨r, F, H⟩ Γ σ ∧ PoB K W ⟨r, F, H⟩ σ (m Γ S) Q
def cA (B : Bs) (W : WX) (m : Ad) : TA := fun σ H Q => ∃ r F Γ S, Wd.Ok K ⟨r, F, H⟩ S ∧ EnOk K B ⟨r, F, H⟩ Γ σ ∧ PoA K W ⟨r, F, H⟩ σ (m Γ S) Q
def cS (B : Bs) (W : WX) (m : Sd) : TS := fun E σ H => ∃ r F Γ S, Wd.Ok K ⟨r, F, H⟩ S ∧ EnOk K B ⟨r, F, H⟩ Γ σ ∧ PoS K B W ⟨r, F, H⟩ (m Γ S) E
end
def Tr (X : Cx) (B : Bs) (W : WX) (e : Expr) (m : Ed) : Prop := PE X e (cE X.K B W m)
def TrB (X : Cx) (B : Bs) (W : WX) (e : Expr) (m : Bd) : Prop := PT X e (cB X.K B W m)
def TrW (X : Cx) (B : Bs) (W : WX) (e : Expr) (m : Bd) : Prop := PW X e (cB X.K B W m)
def TrA (X : Cx) (B : Bs) (W : WX) (es : List Expr) (m : Ad) : Prop := PA X es (cA X.K B W m)
def TrS (X : Cx) (B : Bs) (W : WX) (st : Stmt) (m : Sd) : Prop := PS X st (cS X.K B W m)
def TrSs (X : Cx) (B : Bs) (W : WX) (st : List Stmt) (m : Sd) : Prop := PSs X st (cS X.K B W m)
section
variable {X : Cx} {e : Expr} {es : List Expr} {st : Stmt} {sts : List Stmt}
theorem imE {t t' : TE} (h : PE X e t) (k : ∀ σ H Q, t' σ H Q → t σ H Q) : PE X e t' := ⟨fun p s σ H Q I q => h.run p s σ H Q I (k _ _ _ q)⟩
theorem imB {t t' : TT} (h : PT X e t) (k : ∀ σ H Q, t' σ H Q → t σ H Q) : PT X e t' := ⟨fun p s σ H Q I q => h.run p s σ H Q I (k _ _ _ q)⟩
theorem imW {t t' : TT} (h : PW X e t) (k : ∀ σ H Q, t' σ H Q → t σ H Q) : PW X e t' := ⟨fun wh p s σ H Q I q => h.run wh p s σ H Q I (k _ _ _ q)⟩
theorem imA {t t' : TA} (h : PA X es t) (k : ∀ σ H Q, t' σ H Q → t σ H Q) : PA X es t' := ⟨fun po p s σ H Q I q => h.run po p s σ H Q I (k _ _ _ q)⟩
theorem imS {t t' : TS} (h : PS X st t) (k : ∀ E σ H, t' E σ H → t E σ H) : PS X st t' := ⟨fun p s σ H E I q => h.run p s σ H E I (k _ _ _ q)⟩
theorem imSs {t t' : TS} (h : PSs X sts t) (k : ∀ E σ H, t' E σ H → t E σ H) : PSs X sts t' := ⟨fun p s σ H E I q => h.run p s σ H E I (k _ _ _ q)⟩
end
section
variable {K : PySem.W.Frag} {B : Bs} {W : WX} {w w' : Wd} {σ : L2.St} {Γ : En} {S : Sto}
theorem EnOk.step (t : Step w w') (h : EnOk K B w Γ σ) : EnOk K B w' Γ σ := ⟨⟨h.1.1.trans t, h.1.2⟩, h.2.1, fun i d e => by
  obtain ⟨v, h1, h2⟩ := h.2.2 i d e
  exact ⟨v, h1, h2.up t.pre t.sub⟩⟩
theorem EnOk.set {i : Nat} {v : V} {d : D} (h : EnOk K B w Γ σ) (kp : Keeps B i) (r : Rep K w.r w.F v d) : EnOk K B w (Γ.set i (some d)) (σ.set i (some v)) := ⟨⟨h.1.1, kp _ _ h.1.2⟩, by rw [List.length_set, List.length_set]; exact h.2.1, fun j d' e => by
  by_cases hj : i = j
  · subst hj
    have hl : i < Γ.length := by
      have := (List.getElem?_eq_some_iff.mp e).1
      rwa [List.length_set] at this
    rw [List.getElem?_set_self hl] at e
    cases e
    exact ⟨v, List.getElem?_set_self (by rw [← h.2.1]; exact hl), r⟩
  · rw [List.getElem?_set_ne hj] at e
    obtain ⟨v', h1, h2⟩ := h.2.2 j d' e
    exact ⟨v', by rw [List.getElem?_set_ne hj]; exact h1, h2⟩⟩
theorem EnOk.forget {i : Nat} {v : Option V} (h : EnOk K B w Γ σ) (kp : Keeps B i) : EnOk K B w (Γ.set i none) (σ.set i v) := ⟨⟨h.1.1, kp _ _ h.1.2⟩, by rw [List.length_set, List.length_set]; exact h.2.1, fun j d' e => by
  by_cases hj : i = j
  · subst hj
    have hl : i < Γ.length := by
      have := (List.getElem?_eq_some_iff.mp e).1
      rwa [List.length_set] at this
    rw [List.getElem?_set_self hl] at e
    cases e
  · rw [List.getElem?_set_ne hj] at e
    obtain ⟨v', h1, h2⟩ := h.2.2 j d' e
    exact ⟨v', by rw [List.getElem?_set_ne hj]; exact h1, h2⟩⟩
theorem PoE.step {r : Res D} {Q : VK} (t : Step w w') (h : PoE K W w σ r Q) : PoE K W w' σ r Q := by
  cases r with
  | ok d S => exact fun w2 v t2 o r => h w2 v (t.trans t2) o r
  | exc c fs S => exact fun w2 dx vs t2 o e r => h w2 dx vs (t.trans t2) o e r
  | bad => exact h
theorem PoB.step {r : Res Bool} {Q : Bool → Hp → Prop} (t : Step w w') (h : PoB K W w σ r Q) : PoB K W w' σ r Q := by
  cases r with
  | ok d S => exact fun w2 t2 o => h w2 (t.trans t2) o
  | exc c fs S => exact fun w2 dx vs t2 o e r => h w2 dx vs (t.trans t2) o e r
  | bad => exact h
theorem PoA.step {r : Res (List D)} {Q : List V → Hp → Prop} (t : Step w w') (h : PoA K W w σ r Q) : PoA K W w' σ r Q := by
  cases r with
  | ok d S => exact fun w2 v t2 o r => h w2 v (t.trans t2) o r
  | exc c fs S => exact fun w2 dx vs t2 o e r => h w2 dx vs (t.trans t2) o e r
  | bad => exact h
theorem PoS.step {r : SR} {E : Ends} (t : Step w w') (h : PoS K B W w r E) : PoS K B W w' r E := by
  cases r with
  | nx Γ S => exact fun w2 σ t2 o r => h w2 σ (t.trans t2) o r
  | bk Γ S => exact fun w2 σ t2 o r => h w2 σ (t.trans t2) o r
  | ct Γ S => exact fun w2 σ t2 o r => h w2 σ (t.trans t2) o r
  | rt d S => exact fun w2 v t2 o r => h w2 v (t.trans t2) o r
  | ex c fs Γ S => exact fun w2 σ dx vs t2 o g e r => h w2 σ dx vs (t.trans t2) o g e r
  | bad => exact h
/-- one after the other -/
theorem PoE.bindE {r : Res D} {f : D → Sto → Res D} {Q Q' : VK} (h : PoE K W w σ (r.bind f) Q) (k : ∀ d S w' v, r = .ok d S → Step w w' → w'.Ok K S → Rep K w'.r w'.F v d → PoE K W w' σ (f d S) Q → Q' v w'.H) : PoE K W w σ r Q' := by
  cases r with
  | ok d S => exact fun w2 v t o r => k d S w2 v rfl t o r (PoE.step t h)
  | exc c fs S => exact h
  | bad => exact h
theorem PoB.bindE {r : Res D} {f : D → Sto → Res Bool} {Q : Bool → Hp → Prop} {Q' : VK} (h : PoB K W w σ (r.bind f) Q) (k : ∀ d S w' v, r = .ok d S → Step w w' → w'.Ok K S → Rep K w'.r w'.F v d → PoB K W w' σ (f d S) Q → Q' v w'.H) : PoE K W w σ r Q' := by
  cases r with
  | ok d S => exact fun w2 v t o r => k d S w2 v rfl t o r (PoB.step t h)
  | exc c fs S => exact h
  | bad => exact h
theorem PoE.bindB {r : Res Bool} {f : Bool → Sto → Res D} {Q : VK} {Q' : Bool → Hp → Prop} (h : PoE K W w σ (r.bind f) Q) (k : ∀ d S w', r = .ok d S → Step w w' → w'.Ok K S → PoE K W w' σ (f d S) Q → Q' d w'.H) : PoB K W w σ r Q' := by
  cases r with
  | ok d S => exact fun w2 t o => k d S w2 rfl t o (PoE.step t h)
  | exc c fs S => exact h
  | bad => exact h
theorem PoB.bindB {r : Res Bool} {f : Bool → Sto → Res Bool} {Q Q' : Bool → Hp → Prop} (h : PoB K W w σ (r.bind f) Q) (k : ∀ d S w', r = .ok d S → Step w w' → w'.Ok K S → PoB K W w' σ (f d S) Q → Q' d w'.H) : PoB K W w σ r Q' := by
  cases r with
  | ok d S => exact fun w2 t o => k d S w2 rfl t o (PoB.step t h)
  | exc c fs S => exact h
  | bad => exact h
theorem PoA.bindE {r : Res D} {f : D → Sto → Res (List D)} {Q : List V → Hp → Prop} {Q' : VK} (h : PoA K W w σ (r.bind f) Q) (k : ∀ d S w' v, r = .ok d S → Step w w' → w'.Ok K S → Rep K w'.r w'.F v d → PoA K W w' σ (f d S) Q → Q' v w'.H) : PoE K W w σ r Q' := by
  cases r with
  | ok d S => exact fun w2 v t o r => k d S w2 v rfl t o r (PoA.step t h)
  | exc c fs S => exact h
  | bad => exact h
theorem PoA.bindA {r : Res (List D)} {f : List D → Sto → Res (List D)} {Q Q' : List V → Hp → Prop} (h : PoA K W w σ (r.bind f) Q) (k : ∀ d S w' v, r = .ok d S → Step w w' → w'.Ok K S → Reps K w'.r w'.F v d → PoA K W w' σ (f d S) Q → Q' v w'.H) : PoA K W w σ r Q' := by
  cases r with
  | ok d S => exact fun w2 v t o r => k d S w2 v rfl t o r (PoA.step t h)
  | exc c fs S => exact h
  | bad => exact h
theorem PoE.bindA {r : Res (List D)} {f : List D → Sto → Res D} {Q : VK} {Q' : List V → Hp → Prop} (h : PoE K W w σ (r.bind f) Q) (k : ∀ d S w' v, r = .ok d S → Step w w' → w'.Ok K S → Reps K w'.r w'.F v d → PoE K W w' σ (f d S) Q → Q' v w'.H) : PoA K W w σ r Q' := by
  cases r with
  | ok d S => exact fun w2 v t o r => k d S w2 v rfl t o r (PoE.step t h)
  | exc c fs S => exact h
  | bad => exact h
/-- nothing turns -/
theorem PoE.now {d : D} {S : Sto} {v : V} {Q : VK} (h : PoE K W w σ (.ok d S) Q) (o : w.Ok K S) (r : Rep K w.r w.F v d) : Q v w.H := h w v (Step.refl w) o r
theorem PoB.now {b : Bool} {S : Sto} {Q : Bool → Hp → Prop} (h : PoB K W w σ (.ok b S) Q) (o : w.Ok K S) : Q b w.H := h w (Step.refl w) o
end
end Fx
end

section
set_option Elab.async false
set_option linter.all false
set_option maxRecDepth 100000
set_option maxHeartbeats 2000000
namespace Fx
open PySem PySem.Spec PyProof.Rows L2

/-! ## new objects -/
section
variable {K : PySem.W.Frag} {B : Bs} {W : WX} {w w' : Wd} {σ : L2.St} {Γ : En} {S : Sto}
theorem Wd.Ok.notin (o : w.Ok K S) {p : Addr} (h : w.H p = none) : p ∉ w.r := fun hm => by
  obtain ⟨n, hn⟩ := List.getElem?_of_mem hm
  exact o.there n p hn h
theorem Wd.Ok.noF (o : w.Ok K S) {p : Addr} (h : w.H p = none) : w.F p = none := by
  cases e : w.F p with
  | none => rfl
  | some x => rw [o.sub p x e] at h; cases h
theorem RepO.up {r r' : List Addr} {F F' H H' : Hp} {a : Addr} (p : r <+: r') (s : SubH F F') (e : H' a = H a) : ∀ {o : O}, RepO K r F H a o → RepO K r' F' H' a o
  | .lst ds, ⟨vs, h1, h2⟩ => ⟨vs, e.trans h1, h2.up p s⟩
  | .ins C fs, ⟨dx, vs, h1, h2⟩ => ⟨dx, vs, e.trans h1, h2.up p s⟩
  | .dead, _ => trivial
/-- a new thing that never changes -/
abbrev Wd.new (w : Wd) (p : Addr) (u : HO) : Wd := ⟨w.r, upd w.F p u, upd w.H p u⟩
theorem sub_new {F : Hp} {p : Addr} {u : HO} (h : F p = none) : SubH F (upd F p u) := fun a o e => by rw [upd_ne (ne_of_none e h)]; exact e
theorem Wd.Ok.new (o : w.Ok K S) {p : Addr} (h : w.H p = none) (u : HO) : (w.new p u).Ok K S ∧ Step w (w.new p u) := by
  have hF := o.noF h
  refine ⟨⟨fun a x e => ?_, o.len, o.nd, fun n x a e1 e2 => ?_, fun n x a e1 e2 ne => ?_, fun n a e2 => ?_⟩, ⟨List.prefix_refl _, sub_new hF, fun a x e _ => ?_, fun a hm => .inl hm, fun a hm => ?_⟩⟩
  · show upd w.H p u a = some x
    have e : upd w.F p u a = some x := e
    by_cases hp : a = p
    · subst hp
      rw [upd_same] at e ⊢
      exact e
    · rw [upd_ne hp] at e ⊢
      exact o.sub a x e
  · have hp : a ≠ p := fun z => o.there n a e2 (by rw [z]; exact h)
    exact (o.obj n x a e1 e2).up (List.prefix_refl _) (sub_new hF) (upd_ne hp)
  · have hp : a ≠ p := fun z => o.there n a e2 (by rw [z]; exact h)
    show upd w.F p u a = none
    rw [upd_ne hp]
    exact o.out n x a e1 e2 ne
  · have hp : a ≠ p := fun z => o.there n a e2 (by rw [z]; exact h)
    show upd w.H p u a ≠ none
    rw [upd_ne hp]
    exact o.there n a e2
  · exact (sub_new h) a x e
  · by_cases hp : a = p
    · exact .inr (.inl (by rw [hp]; exact h))
    · have hm' : upd w.F p u a ≠ none := hm
      exact .inl (by rw [upd_ne hp] at hm'; exact hm')
/-- a new thing that may change -/
abbrev Wd.mut (w : Wd) (p : Addr) (u : HO) : Wd := ⟨w.r ++ [p], w.F, upd w.H p u⟩
theorem pre_app (l : List Addr) (p : Addr) : l <+: l ++ [p] := ⟨[p], rfl⟩
theorem Wd.Ok.mut (o : w.Ok K S) {p : Addr} (h : w.H p = none) {u : HO} {x : O} (hx : RepO K (w.r ++ [p]) w.F (upd w.H p u) p x) : (w.mut p u).Ok K (S ++ [x]) ∧ Step w (w.mut p u) := by
  have hF := o.noF h
  have hlen : w.r.length = S.length := o.len
  refine ⟨⟨fun a y e => ?_, ?_, ?_, fun n y a e1 e2 => ?_, fun n y a e1 e2 ne => ?_, fun n a e2 => ?_⟩, ⟨pre_app _ _, SubH.refl _, fun a y e _ => ?_, fun a hm => ?_, fun a hm => .inl hm⟩⟩
  · show upd w.H p u a = some y
    rw [upd_ne (ne_of_none e hF)]
    exact o.sub a y e
  · show (w.r ++ [p]).length = (S ++ [x]).length
    rw [List.length_append, List.length_append, hlen] <;> rfl
  · show (w.r ++ [p]).Nodup
    rw [List.nodup_append]
    refine ⟨o.nd, by simp, fun a ha b hb z => ?_⟩
    simp at hb
    subst hb
    subst z
    exact o.notin h ha
  · have e2 : (w.r ++ [p])[n]? = some a := e2
    by_cases hn : n < S.length
    · rw [List.getElem?_append_left hn] at e1
      rw [List.getElem?_append_left (by omega)] at e2
      have hp : a ≠ p := fun z => o.there n a e2 (by rw [z]; exact h)
      exact (o.obj n y a e1 e2).up (pre_app _ _) (SubH.refl _) (upd_ne hp)
    · have hn2 : n < (S ++ [x]).length := (List.getElem?_eq_some_iff.mp e1).1
      rw [List.length_append] at hn2
      have hn3 : n = S.length := by simp at hn2; omega
      subst hn3
      rw [List.getElem?_append_right (Nat.le_refl _), Nat.sub_self] at e1
      rw [List.getElem?_append_right (by omega), hlen, Nat.sub_self] at e2
      cases e1
      cases e2
      exact hx
  · have e2 : (w.r ++ [p])[n]? = some a := e2
    by_cases hn : n < S.length
    · rw [List.getElem?_append_left hn] at e1
      rw [List.getElem?_append_left (by omega)] at e2
      exact o.out n y a e1 e2 ne
    · have hn2 : n < (S ++ [x]).length := (List.getElem?_eq_some_iff.mp e1).1
      rw [List.length_append] at hn2
      have hn3 : n = S.length := by simp at hn2; omega
      subst hn3
      rw [List.getElem?_append_right (by omega), hlen, Nat.sub_self] at e2
      cases e2
      exact hF
  · have e2 : (w.r ++ [p])[n]? = some a := e2
    show upd w.H p u a ≠ none
    by_cases hp : a = p
    · rw [hp, upd_same]; simp
    · rw [upd_ne hp]
      by_cases hn : n < w.r.length
      · rw [List.getElem?_append_left hn] at e2
        exact o.there n a e2
      · rw [List.getElem?_append_right (by omega)] at e2
        obtain ⟨_, e3⟩ := List.getElem?_eq_some_iff.mp e2
        simp at e3
        exact absurd e3.symm hp
  · exact (sub_new h) a y e
  · rcases List.mem_append.mp hm with z | z
    · exact .inl z
    · simp at z
      exact .inr (by rw [z]; exact h)
/-- a thing that may change turns -/
abbrev Wd.put (w : Wd) (p : Addr) (u : HO) : Wd := ⟨w.r, w.F, upd w.H p u⟩
theorem Wd.Ok.put (o : w.Ok K S) {n : Nat} {p : Addr} {u : HO} {x y : O} (hn : S[n]? = some y) (hd : y ≠ .dead) (hp : w.r[n]? = some p) (hx : RepO K w.r w.F (upd w.H p u) p x) : (w.put p u).Ok K (S.set n x) ∧ Step w (w.put p u) := by
  have hF : w.F p = none := o.out n y p hn hp hd
  have uq : ∀ {m : Nat}, w.r[m]? = some p → m = n := fun {m} e => by
    obtain ⟨h1, e1⟩ := List.getElem?_eq_some_iff.mp e
    obtain ⟨h2, e2⟩ := List.getElem?_eq_some_iff.mp hp
    exact (List.getElem_inj o.nd).mp (e1.trans e2.symm)
  refine ⟨⟨fun a y e => ?_, ?_, o.nd, fun m y a e1 e2 => ?_, fun m y' a e1 e2 ne => ?_, fun m a e2 => ?_⟩, ⟨List.prefix_refl _, SubH.refl _, fun a y e ha => ?_, fun a hm => .inl hm, fun a hm => .inl hm⟩⟩
  · show upd w.H p u a = some y
    rw [upd_ne (ne_of_none e hF)]
    exact o.sub a y e
  · show w.r.length = _
    rw [List.length_set]
    exact o.len
  · by_cases hm : n = m
    · subst hm
      rw [List.getElem?_set_self (List.getElem?_eq_some_iff.mp hn).1] at e1
      cases e1
      have : a = p := Option.some.inj (e2.symm.trans hp)
      subst this
      exact hx
    · rw [List.getElem?_set_ne hm] at e1
      have ha : a ≠ p := fun z => hm (uq (by rw [← z]; exact e2)).symm
      exact (o.obj m y a e1 e2).up (List.prefix_refl _) (SubH.refl _) (upd_ne ha)
  · by_cases hm : n = m
    · subst hm
      have : a = p := Option.some.inj (e2.symm.trans hp)
      subst this
      exact hF
    · rw [List.getElem?_set_ne hm] at e1
      exact o.out m y' a e1 e2 ne
  · show upd w.H p u a ≠ none
    by_cases ha : a = p
    · rw [ha, upd_same]; simp
    · rw [upd_ne ha]
      exact o.there m a e2
  · show upd w.H p u a = some y
    rw [upd_ne fun z => ha (by rw [z]; exact List.mem_of_getElem? hp)]
    exact e
end

/-! ## lists and tuples as they are seen -/
/-- the items of a list, whatever it stands as -/
def dL (S : Sto) : D → Option (List D)
  | .lst xs => some xs
  | .fz xs => some xs
  | .ref n => match S[n]? with | some (.lst xs) => some xs | _ => none
  | _ => none
/-- .. of one that is tracked as a list -/
def dLs (S : Sto) : D → Option (List D)
  | .lst xs => some xs
  | .ref n => match S[n]? with | some (.lst xs) => some xs | _ => none
  | _ => none
section
variable {K : PySem.W.Frag} {B : Bs} {W : WX} {w w' : Wd} {σ : L2.St} {Γ : En} {S : Sto}
theorem dLs_at (o : w.Ok K S) {v : V} {d : D} (r : Rep K w.r w.F v d) {xs : List D} (e : dLs S d = some xs) : ∃ a vs, v = .ref a ∧ w.H a = some (.lst vs) ∧ Reps K w.r w.F vs xs := by
  cases r with
  | lst h hs => cases e; exact ⟨_, _, rfl, o.sub _ _ h, hs⟩
  | @ref a n h =>
    unfold dLs at e
    dsimp only at e
    split at e
    · rename_i ys hy
      cases e
      obtain ⟨vs, h1, h2⟩ := o.obj n _ a hy h
      exact ⟨a, vs, rfl, h1, h2⟩
    · cases e
  | _ => cases e
theorem dL_at (o : w.Ok K S) {v : V} {d : D} (r : Rep K w.r w.F v d) {xs : List D} (e : dL S d = some xs) : ∃ a vs, v = .ref a ∧ SqL K w.H a vs ∧ Reps K w.r w.F vs xs := by
  cases r with
  | lst h hs => cases e; exact ⟨_, _, rfl, .of (o.sub _ _ h), hs⟩
  | fz h hs => cases e; exact ⟨_, _, rfl, sqL_sub o.sub h, hs⟩
  | @ref a n h =>
    unfold dL at e
    dsimp only at e
    split at e
    · rename_i ys hy
      cases e
      obtain ⟨vs, h1, h2⟩ := o.obj n _ a hy h
      exact ⟨a, vs, rfl, .of h1, h2⟩
    · cases e
  | _ => cases e
theorem tup_at (o : w.Ok K S) {v : V} {xs : List D} (r : Rep K w.r w.F v (.tup xs)) : ∃ a vs, v = .ref a ∧ SqT K w.H a vs ∧ Reps K w.r w.F vs xs := by
  cases r with
  | tup h hs => exact ⟨_, _, rfl, sqT_sub o.sub h, hs⟩
/-- a list is made: f, never to change; else one that may -/
def mkL (f : Bool) (xs : List D) (S : Sto) : Res D := match f with
  | true => .ok (.lst xs) S
  | false => .ok (.ref S.length) (S ++ [.lst xs])
theorem mkL_ok {f : Bool} {xs : List D} {vs : List V} {Q : VK} (o : w.Ok K S) (h : PoE K W w σ (mkL f xs S) Q) (r : Reps K w.r w.F vs xs) (p : Addr) (hp : w.H p = none) : Q (.ref p) (upd w.H p (.lst vs)) := by
  cases f with
  | true =>
    obtain ⟨o', t⟩ := o.new hp (.lst vs)
    exact h _ _ t o' (.lst upd_same (r.up t.pre t.sub))
  | false =>
    obtain ⟨o', t⟩ := o.mut (x := .lst xs) hp (u := .lst vs) ⟨vs, upd_same, r.up (pre_app _ _) (SubH.refl _)⟩
    refine h _ _ t o' (.ref ?_)
    rw [List.getElem?_append_right (by rw [o.len]; exact Nat.le_refl _), o.len, Nat.sub_self]
    rfl
theorem mkT_ok {xs : List D} {vs : List V} {Q : VK} (o : w.Ok K S) (h : PoE K W w σ (.ok (.tup xs) S) Q) (r : Reps K w.r w.F vs xs) (p : Addr) (hp : w.H p = none) : Q (.ref p) (upd w.H p (.tup vs)) := by
  obtain ⟨o', t⟩ := o.new hp (.tup vs)
  exact h _ _ t o' (.tup (.of upd_same) (r.up t.pre t.sub))
end

/-! ## names, constants -/
section
variable {X : Cx} {B : Bs} {W : WX} {a b c e : Expr} {es : List Expr} {pos : Pos} {ma mb mc : Ed} {mA : Ad}
def mVar (i : Nat) : Ed := fun Γ S => match Γ[i]? with
  | some (some d) => .ok d S
  | _ => .bad
def mC (d : D) : Ed := fun _ S => .ok d S
theorem tr_var (i : Nat) {x : Str} {pos : Pos} (hN : X.N[i]? = some x := by rfl) (hv : Vis X.env.scope x := by first | exact Or.inl rfl | exact Or.inr (Or.inl rfl) | exact Or.inr (Or.inr rfl)) (hd : (x == ("__debug__" : Str)) = false := by decide)
    (hcd : (x == ("__classdict__" : Str)) = false := by decide) : Tr X B W (.Name x pos) (mVar i) := by
  refine imE (pe_var hN hv hd hcd) fun σ H Q h => ?_
  obtain ⟨r, F, Γ, S, o, g, q⟩ := h
  unfold mVar at q
  split at q
  · rename_i d e
    obtain ⟨v, h1, h2⟩ := g.2.2 i d e
    exact ⟨v, h1, q.now o h2⟩
  · exact q.elim
theorem trC {v : V} {d : D} (h : PE X e (tC v)) (r : ∀ r F, Rep X.K r F v d) : Tr X B W e (mC d) := imE h fun σ H Q ⟨_, _, Γ, S, o, g, q⟩ => q.now o (r _ _)
theorem tr_int {i j pos} : Tr X B W (.Constant (.int i) j pos) (mC (.int i)) := trC pe_int fun _ _ => .int i
theorem tr_bl {i j pos} : Tr X B W (.Constant (.bool i) j pos) (mC (.bl i)) := trC pe_bl fun _ _ => .bl i
theorem tr_non {j pos} : Tr X B W (.Constant .none j pos) (mC .non) := trC pe_non fun _ _ => .non
theorem tr_str {i j pos} : Tr X B W (.Constant (.str i) j pos) (mC (.str i)) := trC pe_str fun _ _ => .str i
theorem tr_gint {x : Str} {i : Int} {t : Tok} {pos : Pos} (hm : X.mg x = some (.int i t)) (hg : Gl X x := by rfl) (hd : (x == ("__debug__" : Str)) = false := by decide) : Tr X B W (.Name x pos) (mC (.int i)) := trC (pe_glob (v := V.int i) hg hm ⟨t, rfl⟩ hd) fun _ _ => .int i
theorem tr_gstr {x : Str} {i : Str} {t : Tok} {pos : Pos} (hm : X.mg x = some (.str i t)) (hg : Gl X x := by rfl) (hd : (x == ("__debug__" : Str)) = false := by decide) : Tr X B W (.Name x pos) (mC (.str i)) := trC (pe_glob (v := V.str i) hg hm ⟨t, rfl⟩ hd) fun _ _ => .str i

/-! ## operators -/
def mOp (f : D → D → Sto → Res D) (a b : Ed) : Ed := fun Γ S => (a Γ S).bind fun x S1 => (b Γ S1).bind fun y S2 => f x y S2
/-- an operator's rule is right for f -/
def SoR (K : PySem.W.Frag) (r : R2) (f : D → D → Sto → Res D) : Prop := ∀ (W : WX) (w : Wd) (σ : L2.St) (S : Sto) (x y : V) (d e : D) (Q : VK), w.Ok K S → Rep K w.r w.F x d → Rep K w.r w.F y e → PoE K W w σ (f d e S) Q → r x y w.H Q
theorem so_op {r : R2} {f : D → D → Sto → Res D} (hr : SoR X.K r f) {σ : L2.St} {H : Hp} {Q : VK} (h : cE X.K B W (mOp f ma mb) σ H Q) : tOp r (cE X.K B W ma) (cE X.K B W mb) σ H Q := by
  obtain ⟨r0, F, Γ, S, o, g, q⟩ := h
  refine ⟨r0, F, Γ, S, o, g, PoE.bindE q fun d S1 w1 v _ t1 o1 rp1 q1 => ?_⟩
  refine ⟨w1.r, w1.F, Γ, S1, o1, g.step t1, PoE.bindE q1 fun d2 S2 w2 v2 _ t2 o2 rp2 q2 => ?_⟩
  exact hr W w2 σ S2 v v2 d d2 Q o2 (rp1.up t2.pre t2.sub) rp2 q2
theorem tr_op {op : Operator} {r : R2} {f : D → D → Sto → Res D} (ho : OpR X (binaryOp op) r) (hr : SoR X.K r f) (ha : Tr X B W a ma) (hb : Tr X B W b mb) : Tr X B W (.BinOp a op b pos) (mOp f ma mb) :=
  imE (pe_op ho ha hb) fun σ H Q h => so_op hr h
theorem tr_cmp {op : CmpOp} {r : R2} {f : D → D → Sto → Res D} (ho : OpR X (compareOp op) r) (hr : SoR X.K r f) (ha : Tr X B W a ma) (hb : Tr X B W b mb) (hm : behindInMarks op b = false := by first | exact nobehind _ (by decide) (by decide) | rfl | with_unfolding_all rfl) : Tr X B W (.Compare a [op] [b] pos) (mOp f ma mb) :=
  imE (pe_cmpR ho ha hb hm) fun σ H Q h => so_op hr h
/-- a value that is a truth, as a test -/
def mT (a : Ed) : Bd := fun Γ S => (a Γ S).bind fun x S1 => match x with
  | .bl b => .ok b S1
  | _ => .bad
theorem so_T {σ : L2.St} {H : Hp} {Q : Bool → Hp → Prop} (h : cB X.K B W (mT ma) σ H Q) : cE X.K B W ma σ H (fun x H' => ∃ k, x = .bl k ∧ Q k H') := by
  obtain ⟨r0, F, Γ, S, o, g, q⟩ := h
  refine ⟨r0, F, Γ, S, o, g, PoB.bindE q fun d S1 w1 v _ t1 o1 rp1 q1 => ?_⟩
  cases rp1 with
  | bl b => exact ⟨b, rfl, q1.now o1⟩
  | _ => exact q1.elim
/-- a test whose expression yields a truth -/
theorem tb_val (ha : Tr X B W a ma) (he : ∀ whole, isTrue a X.env whole = (do let v ← whole; standAt a.pos; holding [v] (truthy v)) := by intro _; rfl) : TrB X B W a (mT ma) :=
  imB (pt_val ha he) fun σ H Q h => so_T h
theorem tb_cmp {op : CmpOp} {r : R2} {f : D → D → Sto → Res D} (ho : OpR X (compareOp op) r) (hr : SoR X.K r f) (ha : Tr X B W a ma) (hb : Tr X B W b mb) (hm : behindInMarks op b = false := by first | exact nobehind _ (by decide) (by decide) | rfl | with_unfolding_all rfl) : TrB X B W (.Compare a [op] [b] pos) (mT (mOp f ma mb)) := by
  refine imB (pt_cmpR ho ha hb hm) fun σ H Q h => ?_
  exact so_op hr (so_T h)
/-- a op b op' c -/
def mCh (f g : D → D → Sto → Res D) (a b c : Ed) : Ed := fun Γ S => (a Γ S).bind fun x S1 => (b Γ S1).bind fun y S2 => (f x y S2).bind fun z S3 => match z with
  | .bl true => (c Γ S3).bind fun u S4 => g y u S4
  | .bl false => .ok (.bl false) S3
  | _ => .bad
theorem so_ch {r r' : R2} {f f' : D → D → Sto → Res D} (hr : SoR X.K r f) (hr' : SoR X.K r' f') {σ : L2.St} {H : Hp} {Q : VK} (h : cE X.K B W (mCh f f' ma mb mc) σ H Q) : tChain r r' (cE X.K B W ma) (cE X.K B W mb) (cE X.K B W mc) σ H Q := by
  obtain ⟨r0, F, Γ, S, o, g, q⟩ := h
  refine ⟨r0, F, Γ, S, o, g, PoE.bindE q fun d S1 w1 v _ t1 o1 rp1 q1 => ?_⟩
  refine ⟨w1.r, w1.F, Γ, S1, o1, g.step t1, PoE.bindE q1 fun d2 S2 w2 v2 _ t2 o2 rp2 q2 => ?_⟩
  refine hr W w2 σ S2 v v2 d d2 _ o2 (rp1.up t2.pre t2.sub) rp2 (PoE.bindE q2 fun d3 S3 w3 v3 _ t3 o3 rp3 q3 => ?_)
  cases rp3 with
  | bl b =>
    refine ⟨b, rfl, ?_⟩
    cases b with
    | true =>
      rw [if_pos rfl]
      refine ⟨w3.r, w3.F, Γ, S3, o3, (g.step t1).step (t2.trans t3), PoE.bindE q3 fun d4 S4 w4 v4 _ t4 o4 rp4 q4 => ?_⟩
      exact hr' W w4 σ S4 v2 v4 d2 d4 Q o4 (rp2.up (t3.trans t4).pre (t3.trans t4).sub) rp4 q4
    | false =>
      rw [if_neg Bool.false_ne_true]
      exact q3.now o3 (.bl false)
  | _ => exact q3.elim
theorem tr_chain {op op' : CmpOp} {r r' : R2} {f f' : D → D → Sto → Res D} (ho : OpR X (compareOp op) r) (hr : SoR X.K r f) (ho' : OpR X (compareOp op') r') (hr' : SoR X.K r' f') (ha : Tr X B W a ma) (hb : Tr X B W b mb) (hc : Tr X B W c mc)
    (hm : lastMarks [op, op'] [b, c] = false := by with_unfolding_all rfl) : Tr X B W (.Compare a [op, op'] [b, c] pos) (mCh f f' ma mb mc) := imE (pe_chain ho ho' ha hb hc hm) fun σ H Q h => so_ch hr hr' h
theorem tb_chain {op op' : CmpOp} {r r' : R2} {f f' : D → D → Sto → Res D} (ho : OpR X (compareOp op) r) (hr : SoR X.K r f) (ho' : OpR X (compareOp op') r') (hr' : SoR X.K r' f') (ha : Tr X B W a ma) (hb : Tr X B W b mb) (hc : Tr X B W c mc)
    (hm : lastMarks [op, op'] [b, c] = false := by with_unfolding_all rfl) : TrB X B W (.Compare a [op, op'] [b, c] pos) (mT (mCh f f' ma mb mc)) := by
  refine imB (pt_chain ho ho' ha hb hc hm) fun σ H Q h => ?_
  exact so_ch hr hr' (so_T h)
/-! and, or, not -/
variable {mB mB' : Bd} {rest : List Expr}
def mAnd (a b : Bd) : Bd := fun Γ S => (a Γ S).bind fun x S1 => match x with
  | true => b Γ S1
  | false => .ok false S1
def mOr (a b : Bd) : Bd := fun Γ S => (a Γ S).bind fun x S1 => match x with
  | true => .ok true S1
  | false => b Γ S1
def mNot (a : Bd) : Bd := fun Γ S => (a Γ S).bind fun x S1 => .ok (!x) S1
theorem tw_and1 (ha : TrB X B W a mB) : TrW X B W (.BoolOp .And [a] pos) mB := pw_and1 ha
theorem tw_or1 (ha : TrB X B W a mB) : TrW X B W (.BoolOp .Or [a] pos) mB := pw_or1 ha
theorem tw_and (ha : TrB X B W a mB) (hb : TrW X B W (.BoolOp .And (b :: rest) pos) mB') : TrW X B W (.BoolOp .And (a :: b :: rest) pos) (mAnd mB mB') := by
  refine imW (pw_and ha hb) fun σ H Q h => ?_
  obtain ⟨r0, F, Γ, S, o, g, q⟩ := h
  refine ⟨r0, F, Γ, S, o, g, PoB.bindB q fun d S1 w1 _ t1 o1 q1 => ?_⟩
  cases d with
  | true =>
    rw [if_pos rfl]
    exact ⟨w1.r, w1.F, Γ, S1, o1, g.step t1, q1⟩
  | false =>
    rw [if_neg Bool.false_ne_true]
    exact q1.now o1
theorem tw_or (ha : TrB X B W a mB) (hb : TrW X B W (.BoolOp .Or (b :: rest) pos) mB') : TrW X B W (.BoolOp .Or (a :: b :: rest) pos) (mOr mB mB') := by
  refine imW (pw_or ha hb) fun σ H Q h => ?_
  obtain ⟨r0, F, Γ, S, o, g, q⟩ := h
  refine ⟨r0, F, Γ, S, o, g, PoB.bindB q fun d S1 w1 _ t1 o1 q1 => ?_⟩
  cases d with
  | false =>
    rw [if_neg Bool.false_ne_true]
    exact ⟨w1.r, w1.F, Γ, S1, o1, g.step t1, q1⟩
  | true =>
    rw [if_pos rfl]
    exact q1.now o1
theorem tb_w {m : Bd} (h : TrW X B W e m) : TrB X B W e m := PW.pt h
theorem tb_not (ha : TrB X B W a mB) : TrB X B W (.UnaryOp .Not a pos) (mNot mB) := by
  refine imB (pt_not ha) fun σ H Q h => ?_
  obtain ⟨r0, F, Γ, S, o, g, q⟩ := h
  exact ⟨r0, F, Γ, S, o, g, PoB.bindB q fun d S1 w1 _ t1 o1 q1 => q1.now o1⟩
/-- .. as values, each part a truth -/
def vAnd (a b : Ed) : Ed := fun Γ S => (a Γ S).bind fun x S1 => match x with
  | .bl true => b Γ S1
  | .bl false => .ok (.bl false) S1
  | _ => .bad
def vOr (a b : Ed) : Ed := fun Γ S => (a Γ S).bind fun x S1 => match x with
  | .bl true => .ok (.bl true) S1
  | .bl false => b Γ S1
  | _ => .bad
def vNot (a : Ed) : Ed := fun Γ S => (a Γ S).bind fun x S1 => match x with
  | .bl b => .ok (.bl (!b)) S1
  | _ => .bad
theorem tr_one {op} (ha : Tr X B W a ma) : Tr X B W (.BoolOp op [a] pos) ma := pe_one ha
theorem tr_and (ha : Tr X B W a ma) (hb : Tr X B W (.BoolOp .And (b :: rest) pos) mb) : Tr X B W (.BoolOp .And (a :: b :: rest) pos) (vAnd ma mb) := by
  refine imE (pe_and ha hb) fun σ H Q h => ?_
  obtain ⟨r0, F, Γ, S, o, g, q⟩ := h
  refine ⟨r0, F, Γ, S, o, g, PoE.bindE q fun d S1 w1 v _ t1 o1 rp1 q1 => ?_⟩
  cases rp1 with
  | bl b =>
    refine ⟨b, rfl, ?_⟩
    cases b with
    | true =>
      rw [if_pos rfl]
      exact ⟨w1.r, w1.F, Γ, S1, o1, g.step t1, q1⟩
    | false =>
      rw [if_neg Bool.false_ne_true]
      exact q1.now o1 (.bl false)
  | _ => exact q1.elim
theorem tr_or (ha : Tr X B W a ma) (hb : Tr X B W (.BoolOp .Or (b :: rest) pos) mb) : Tr X B W (.BoolOp .Or (a :: b :: rest) pos) (vOr ma mb) := by
  refine imE (pe_or ha hb) fun σ H Q h => ?_
  obtain ⟨r0, F, Γ, S, o, g, q⟩ := h
  refine ⟨r0, F, Γ, S, o, g, PoE.bindE q fun d S1 w1 v _ t1 o1 rp1 q1 => ?_⟩
  cases rp1 with
  | bl b =>
    refine ⟨b, rfl, ?_⟩
    cases b with
    | false =>
      rw [if_neg Bool.false_ne_true]
      exact ⟨w1.r, w1.F, Γ, S1, o1, g.step t1, q1⟩
    | true =>
      rw [if_pos rfl]
      exact q1.now o1 (.bl true)
  | _ => exact q1.elim
theorem tr_not (ha : Tr X B W a ma) : Tr X B W (.UnaryOp .Not a pos) (vNot ma) := by
  refine imE (pe_not ha) fun σ H Q h => ?_
  obtain ⟨r0, F, Γ, S, o, g, q⟩ := h
  refine ⟨r0, F, Γ, S, o, g, PoE.bindE q fun d S1 w1 v _ t1 o1 rp1 q1 => ?_⟩
  cases rp1 with
  | bl b => exact ⟨b, rfl, q1.now o1 (.bl (!b))⟩
  | _ => exact q1.elim
def mIf (t : Bd) (a b : Ed) : Ed := fun Γ S => (t Γ S).bind fun x S1 => match x with
  | true => a Γ S1
  | false => b Γ S1
theorem tr_if {t : Expr} (ht : TrB X B W t mB) (ha : Tr X B W a ma) (hb : Tr X B W b mb) : Tr X B W (.IfExp t a b pos) (mIf mB ma mb) := by
  refine imE (pe_ifExp ht ha hb) fun σ H Q h => ?_
  obtain ⟨r0, F, Γ, S, o, g, q⟩ := h
  refine ⟨r0, F, Γ, S, o, g, PoE.bindB q fun d S1 w1 _ t1 o1 q1 => ?_⟩
  cases d with
  | true =>
    rw [if_pos rfl]
    exact ⟨w1.r, w1.F, Γ, S1, o1, g.step t1, q1⟩
  | false =>
    rw [if_neg Bool.false_ne_true]
    exact ⟨w1.r, w1.F, Γ, S1, o1, g.step t1, q1⟩

/-! ## arguments, displays -/
def aNil : Ad := fun _ S => .ok [] S
def aCons (a : Ed) (b : Ad) : Ad := fun Γ S => (a Γ S).bind fun x S1 => (b Γ S1).bind fun xs S2 => .ok (x :: xs) S2
def dSq (S : Sto) : D → Option (List D)
  | .tup xs => some xs
  | d => dL S d
theorem dSq_at {w : Wd} {S : Sto} {K : PySem.W.Frag} (o : w.Ok K S) {v : V} {d : D} (r : Rep K w.r w.F v d) {xs : List D} (e : dSq S d = some xs) : ∃ a vs, v = .ref a ∧ (SqT K w.H a vs ∨ SqL K w.H a vs) ∧ Reps K w.r w.F vs xs := by
  have h2 : ∀ (_ : dL S d = some xs), ∃ a vs, v = .ref a ∧ (SqT K w.H a vs ∨ SqL K w.H a vs) ∧ Reps K w.r w.F vs xs := fun e2 => by
    obtain ⟨a, vs, h1, h3, h4⟩ := dL_at o r e2
    exact ⟨a, vs, h1, .inr h3, h4⟩
  cases d with
  | tup ys =>
    cases e
    obtain ⟨a, vs, h1, h3, h4⟩ := tup_at o r
    exact ⟨a, vs, h1, .inl h3, h4⟩
  | _ => exact h2 e
def aStar (a : Ed) (b : Ad) : Ad := fun Γ S => (a Γ S).bind fun x S1 => match dSq S1 x with
  | some ys => (b Γ S1).bind fun xs S2 => .ok (ys ++ xs) S2
  | none => .bad
theorem ta_nil : TrA X B W [] aNil := imA pa_nil fun σ H Q ⟨_, _, Γ, S, o, g, q⟩ => q _ _ (Step.refl _) o .nil
theorem ta_cons (ha : Tr X B W a ma) (hr : TrA X B W es mA) (hs : starEach (a :: es) X.env = (false, eval a X.env) :: starEach es X.env := by rfl) : TrA X B W (a :: es) (aCons ma mA) := by
  refine imA (pa_cons ha hr hs) fun σ H Q h => ?_
  obtain ⟨r0, F, Γ, S, o, g, q⟩ := h
  refine ⟨r0, F, Γ, S, o, g, PoA.bindE q fun d S1 w1 v _ t1 o1 rp1 q1 => ?_⟩
  refine ⟨w1.r, w1.F, Γ, S1, o1, g.step t1, PoA.bindA q1 fun d2 S2 w2 v2 _ t2 o2 rp2 q2 => ?_⟩
  exact q2 _ _ (Step.refl _) o2 (.cons (rp1.up t2.pre t2.sub) rp2)
theorem ta_star {p : Pos} (ha : Tr X B W a ma) (hr : TrA X B W es mA) (hs : starEach (.Starred a p :: es) X.env = (true, eval a X.env) :: starEach es X.env := by rfl) : TrA X B W (.Starred a p :: es) (aStar ma mA) := by
  refine imA (StX.pa_star ha hr hs) fun σ H Q h => ?_
  obtain ⟨r0, F, Γ, S, o, g, q⟩ := h
  refine ⟨r0, F, Γ, S, o, g, PoA.bindE q fun d S1 w1 v _ t1 o1 rp1 q1 => ?_⟩
  cases e : dSq S1 d with
  | none => rw [e] at q1; exact q1.elim
  | some ys =>
    rw [e] at q1
    obtain ⟨a, vs, rfl, h3, h4⟩ := dSq_at o1 rp1 e
    refine ⟨a, vs, rfl, h3, w1.r, w1.F, Γ, S1, o1, g.step t1, PoA.bindA q1 fun d2 S2 w2 v2 _ t2 o2 rp2 q2 => ?_⟩
    exact q2 _ _ (Step.refl _) o2 ((h4.up t2.pre t2.sub).app rp2)
/-- the longest list, tuple, text that we make -/
def big : Nat := 1000000
theorem big_le {n : Nat} (h : n ≤ big) : n ≤ sizeLine := Nat.le_trans h (by decide)
theorem big_lt {n : Nat} (h : n < big) : n < sizeLine := Nat.lt_of_lt_of_le h (by decide)
def mTup (a : Ad) : Ed := fun Γ S => (a Γ S).bind fun xs S1 => if xs.length ≤ big then .ok (.tup xs) S1 else .bad
def mLst (f : Bool) (a : Ad) : Ed := fun Γ S => (a Γ S).bind fun xs S1 => if xs.length ≤ big then mkL f xs S1 else .bad
theorem tr_tup {x1} (h : TrA X B W es mA) : Tr X B W (.Tuple es x1 pos) (mTup mA) := by
  refine imE (pe_tup h) fun σ H Q h => ?_
  obtain ⟨r0, F, Γ, S, o, g, q⟩ := h
  refine ⟨r0, F, Γ, S, o, g, PoE.bindA q fun d S1 w1 v _ t1 o1 rp1 q1 => ?_⟩
  split at q1
  · rename_i hz
    exact ⟨big_le (by rw [rp1.len]; exact hz), fun p hp => mkT_ok o1 q1 rp1 p hp⟩
  · exact q1.elim
theorem tr_lst (f : Bool) (h : TrA X B W es mA) : Tr X B W (.List es pos) (mLst f mA) := by
  refine imE (pe_lst h) fun σ H Q h => ?_
  obtain ⟨r0, F, Γ, S, o, g, q⟩ := h
  refine ⟨r0, F, Γ, S, o, g, PoE.bindA q fun d S1 w1 v _ t1 o1 rp1 q1 => ?_⟩
  split at q1
  · rename_i hz
    exact ⟨big_le (by rw [rp1.len]; exact hz), fun p hp => mkL_ok o1 q1 rp1 p hp⟩
  · exact q1.elim
end
end Fx
end

section
set_option Elab.async false
set_option linter.all false
set_option maxRecDepth 100000
set_option maxHeartbeats 2000000
namespace Fx
open PySem PySem.Spec PyProof.Rows L2

theorem OpR.or {X : Cx} {f : Value → Value → Sem Value} {r r' : R2} (h : OpR X f r) (h' : OpR X f r') : OpR X f (fun x y H Q => r x y H Q ∨ r' x y H Q) := by
  intro pins s σ H x y v u Q I rx ry q
  rcases q with q | q
  · exact h pins s σ H x y v u Q I rx ry q
  · exact h' pins s σ H x y v u Q I rx ry q
theorem CallR.or {X : Cx} {f : Value} {r r' : List V → Hp → VK → Prop} (h : CallR X f r) (h' : CallR X f r') : CallR X f (fun xs H Q => r xs H Q ∨ r' xs H Q) := by
  intro pins s σ H xs us Q I r q
  rcases q with q | q
  · exact h pins s σ H xs us Q I r q
  · exact h' pins s σ H xs us Q I r q

section
variable {X : Cx} {K : PySem.W.Frag}
/-! ### ints -/
def dII (g : Int → Int → D) (x y : D) (S : Sto) : Res D := match x, y with
  | .int i, .int j => .ok (g i j) S
  | _, _ => .bad
def dIC (C : Int → Int → Prop) [∀ i j, Decidable (C i j)] (g : Int → Int → Int) (x y : D) (S : Sto) : Res D := match x, y with
  | .int i, .int j => if C i j then .ok (.int (g i j)) S else .bad
  | _, _ => .bad
theorem so_I0 {g : Int → Int → Int} : SoR K (rI0 fun i j => .int (g i j)) (dII fun i j => .int (g i j)) := by
  intro W w σ S x y d e Q o rx ry h
  cases rx with
  | int i =>
    cases ry with
    | int j => exact ⟨i, j, rfl, rfl, h.now o (.int _)⟩
    | _ => exact h.elim
  | _ => cases ry <;> exact h.elim
theorem so_B0 {g : Int → Int → Bool} : SoR K (rI0 fun i j => .bl (g i j)) (dII fun i j => .bl (g i j)) := by
  intro W w σ S x y d e Q o rx ry h
  cases rx with
  | int i =>
    cases ry with
    | int j => exact ⟨i, j, rfl, rfl, h.now o (.bl _)⟩
    | _ => exact h.elim
  | _ => cases ry <;> exact h.elim
theorem so_I {C : Int → Int → Prop} [∀ i j, Decidable (C i j)] {g : Int → Int → Int} : SoR K (rI C fun i j => .int (g i j)) (dIC C g) := by
  intro W w σ S x y d e Q o rx ry h
  cases rx with
  | int i =>
    cases ry with
    | int j =>
      unfold dIC at h
      dsimp only at h
      split at h
      · rename_i hc
        exact ⟨i, j, rfl, rfl, hc, h.now o (.int _)⟩
      · exact h.elim
    | _ => exact h.elim
  | _ => cases ry <;> exact h.elim
instance : ∀ i j, Decidable (CMul i j) := fun i j => by unfold CMul; infer_instance
instance : ∀ i j, Decidable (CDiv i j) := fun i j => by unfold CDiv; infer_instance
instance : ∀ i j, Decidable (CPow i j) := fun i j => by unfold CPow; infer_instance
abbrev dSub := dII fun i j => .int (i - j)
abbrev dMul := dIC CMul fun i j => i * j
abbrev dDiv := dIC CDiv fun i j => i / j
abbrev dMod := dIC (fun _ j => 0 < j) fun i j => i % j
abbrev dPow := dIC CPow fun i j => i ^ j.toNat
abbrev dLt := dII fun i j => .bl (decide (i < j))
abbrev dLe := dII fun i j => .bl (decide (i ≤ j))
abbrev dGt := dII fun i j => .bl (decide (j < i))
abbrev dGe := dII fun i j => .bl (decide (j ≤ i))
variable {B : Bs} {W : WX} {a b c e : Expr} {es : List Expr} {pos : Pos} {ma mb mc : Ed} {mA : Ad}
theorem tr_sub (ha : Tr X B W a ma) (hb : Tr X B W b mb) : Tr X B W (.BinOp a .Sub b pos) (mOp dSub ma mb) := tr_op op_sub so_I0 ha hb
theorem tr_mul (ha : Tr X B W a ma) (hb : Tr X B W b mb) : Tr X B W (.BinOp a .Mult b pos) (mOp dMul ma mb) := tr_op op_mul so_I ha hb
theorem tr_div (ha : Tr X B W a ma) (hb : Tr X B W b mb) : Tr X B W (.BinOp a .FloorDiv b pos) (mOp dDiv ma mb) := tr_op op_fdiv so_I ha hb
theorem tr_mod (ha : Tr X B W a ma) (hb : Tr X B W b mb) : Tr X B W (.BinOp a .Mod b pos) (mOp dMod ma mb) := tr_op op_mod so_I ha hb
theorem tr_pow (ha : Tr X B W a ma) (hb : Tr X B W b mb) : Tr X B W (.BinOp a .Pow b pos) (mOp dPow ma mb) := tr_op op_pow so_I ha hb
theorem tr_lt (ha : Tr X B W a ma) (hb : Tr X B W b mb) : Tr X B W (.Compare a [.Lt] [b] pos) (mOp dLt ma mb) := tr_cmp op_lt so_B0 ha hb
theorem tr_le (ha : Tr X B W a ma) (hb : Tr X B W b mb) : Tr X B W (.Compare a [.LtE] [b] pos) (mOp dLe ma mb) := tr_cmp op_le so_B0 ha hb
theorem tr_gt (ha : Tr X B W a ma) (hb : Tr X B W b mb) : Tr X B W (.Compare a [.Gt] [b] pos) (mOp dGt ma mb) := tr_cmp op_gt so_B0 ha hb
theorem tr_ge (ha : Tr X B W a ma) (hb : Tr X B W b mb) : Tr X B W (.Compare a [.GtE] [b] pos) (mOp dGe ma mb) := tr_cmp op_ge so_B0 ha hb
theorem tb_lt (ha : Tr X B W a ma) (hb : Tr X B W b mb) : TrB X B W (.Compare a [.Lt] [b] pos) (mT (mOp dLt ma mb)) := tb_cmp op_lt so_B0 ha hb
theorem tb_le (ha : Tr X B W a ma) (hb : Tr X B W b mb) : TrB X B W (.Compare a [.LtE] [b] pos) (mT (mOp dLe ma mb)) := tb_cmp op_le so_B0 ha hb
theorem tb_gt (ha : Tr X B W a ma) (hb : Tr X B W b mb) : TrB X B W (.Compare a [.Gt] [b] pos) (mT (mOp dGt ma mb)) := tb_cmp op_gt so_B0 ha hb
theorem tb_ge (ha : Tr X B W a ma) (hb : Tr X B W b mb) : TrB X B W (.Compare a [.GtE] [b] pos) (mT (mOp dGe ma mb)) := tb_cmp op_ge so_B0 ha hb
/-- -a -/
def mUn (f : D → Sto → Res D) (a : Ed) : Ed := fun Γ S => (a Γ S).bind f
def dNeg (x : D) (S : Sto) : Res D := match x with
  | .int i => .ok (.int (-i)) S
  | _ => .bad
theorem tr_neg (ha : Tr X B W a ma) : Tr X B W (.UnaryOp .USub a pos) (mUn dNeg ma) := by
  refine imE (pe_un un_neg ha) fun σ H Q h => ?_
  obtain ⟨r0, F, Γ, S, o, g, q⟩ := h
  refine ⟨r0, F, Γ, S, o, g, PoE.bindE q fun d S1 w1 v _ t1 o1 rp1 q1 => ?_⟩
  cases rp1 with
  | int i => exact ⟨i, rfl, q1.now o1 (.int _)⟩
  | _ => exact q1.elim

/-! ### + -/
def dAdd (f : Bool) (x y : D) (S : Sto) : Res D := match x, y with
  | .int i, .int j => .ok (.int (i + j)) S
  | .str a, .str b => if a.length + b.length ≤ big then .ok (.str (a ++ b)) S else .bad
  | .str a, .opq n => if a.length + n ≤ big then .ok (.opq (a.length + n)) S else .bad
  | .opq n, .str a => if n + a.length ≤ big then .ok (.opq (n + a.length)) S else .bad
  | .tup a, .tup b => if a.length + b.length ≤ big then .ok (.tup (a ++ b)) S else .bad
  | x, y => match dLs S x, dLs S y with
    | some a, some b => if a.length + b.length ≤ big then mkL f (a ++ b) S else .bad
    | _, _ => .bad
def rAddA (K : PySem.W.Frag) : R2 := fun x y H Q => (rI0 (fun i j => .int (i + j)) x y H Q ∨ (∃ i j, x = .str i ∧ y = .str j ∧ i.length + j.length ≤ sizeLine ∧ Q (.str (i ++ j)) H)) ∨ (rCatA K x y H Q ∨ rCat x y H Q)
theorem op_addA : OpR X (binaryOp .Add) (rAddA X.K) := OpR.or (OpR.or op_add op_add_str) (OpR.or op_catA op_cat)
theorem str_app_len (a b : Str) : (a ++ b).length = a.length + b.length := by
  show (a.cps ++ b.cps).size = a.cps.size + b.cps.size
  rw [Array.size_append]
theorem so_addL {f : Bool} {w : Wd} {σ : L2.St} {S : Sto} {x y : V} {d e : D} {Q : VK} (o : w.Ok K S) (rx : Rep K w.r w.F x d) (ry : Rep K w.r w.F y e)
    (h : PoE K W w σ (match dLs S d, dLs S e with | some a, some b => if a.length + b.length ≤ big then mkL f (a ++ b) S else .bad | _, _ => .bad) Q) : rAddA K x y w.H Q := by
  cases e1 : dLs S d with
  | none => rw [e1] at h; exact h.elim
  | some l =>
    cases e2 : dLs S e with
    | none => rw [e1, e2] at h; exact h.elim
    | some m =>
      rw [e1, e2] at h
      dsimp only at h
      split at h
      · rename_i hz
        obtain ⟨a, vs, rfl, h3, h4⟩ := dLs_at o rx e1
        obtain ⟨b, us, rfl, h5, h6⟩ := dLs_at o ry e2
        exact .inr (.inr ⟨a, b, vs, us, rfl, rfl, h3, h5, big_le (by rw [h4.len, h6.len]; exact hz), fun p hp => mkL_ok o h (h4.app h6) p hp⟩)
      · exact h.elim
theorem so_add {f : Bool} : SoR K (rAddA K) (dAdd f) := by
  intro W w σ S x y d e Q o rx ry h
  cases rx with
  | int i =>
    cases ry with
    | int j => exact .inl (.inl ⟨i, j, rfl, rfl, h.now o (.int _)⟩)
    | _ => exact h.elim
  | str i =>
    cases ry with
    | str j =>
      unfold dAdd at h
      dsimp only at h
      split at h
      · rename_i hz
        exact .inl (.inr ⟨i, j, rfl, rfl, big_le hz, h.now o (.str _)⟩)
      · exact h.elim
    | @opq j n hj =>
      unfold dAdd at h
      dsimp only at h
      split at h
      · rename_i hz
        exact .inl (.inr ⟨i, j, rfl, rfl, big_le (by omega), h.now o (.opq (by rw [str_app_len]; omega))⟩)
      · exact h.elim
    | _ => exact h.elim
  | @opq i n hi =>
    cases ry with
    | str j =>
      unfold dAdd at h
      dsimp only at h
      split at h
      · rename_i hz
        exact .inl (.inr ⟨i, j, rfl, rfl, big_le (by omega), h.now o (.opq (by rw [str_app_len]; omega))⟩)
      · exact h.elim
    | _ => exact h.elim
  | @tup p vs l hp hs =>
    cases ry with
    | @tup p2 us m hp2 hs2 =>
      unfold dAdd at h
      dsimp only at h
      split at h
      · rename_i hz
        refine .inr (.inl ⟨p, p2, vs, us, rfl, rfl, sqT_sub o.sub hp, sqT_sub o.sub hp2, big_le (by rw [hs.len, hs2.len]; exact hz), fun e => ?_, fun e e2 => ?_, fun e e2 p3 hp3 => ?_⟩)
        · subst e
          have := hs.len
          cases l with
          | nil => exact h.now o (.tup hp2 hs2)
          | cons _ _ => cases this
        · subst e2
          have := hs2.len
          cases m with
          | nil => exact h.now o (.tup hp (by rw [List.append_nil]; exact hs))
          | cons _ _ => cases this
        · exact mkT_ok o h (hs.app hs2) p3 hp3
      · exact h.elim
    | _ => exact h.elim
  | non => exact h.elim
  | bl _ => exact h.elim
  | adr _ => exact h.elim
  | dct _ _ _ _ => exact h.elim
  | fz h1 h2 => exact so_addL (f := f) o (.fz h1 h2) ry h
  | lst h1 h2 => exact so_addL (f := f) o (.lst h1 h2) ry h
  | ref h1 => exact so_addL (f := f) o (.ref h1) ry h
theorem tr_add (f : Bool) (ha : Tr X B W a ma) (hb : Tr X B W b mb) : Tr X B W (.BinOp a .Add b pos) (mOp (dAdd f) ma mb) := tr_op op_addA so_add ha hb

/-! ### ==, != -/
mutual
def toPy : D → Option PyData
  | .non => some .none
  | .bl b => some (.bool b)
  | .int i => some (.int i)
  | .str x => some (.str x)
  | .tup xs => (toPys xs).map .tuple
  | .lst xs => (toPys xs).map .list
  | .fz xs => (toPys xs).map .list
  | _ => none
def toPys : List D → Option (List PyData)
  | [] => some []
  | x :: xs => match toPy x, toPys xs with
    | some a, some b => some (a :: b)
    | _, _ => none
end
def toPyS (S : Sto) : D → Option PyData
  | .ref n => match S[n]? with
    | some (.lst xs) => (toPys xs).map .list
    | _ => none
  | d => toPy d
mutual
theorem dp_of {w : Wd} {S : Sto} (o : w.Ok K S) : ∀ {v : V} {d : D} {p : PyData}, Rep K w.r w.F v d → toPy d = some p → Dp K w.H v p
  | _, _, _, .non, e => by cases e; exact .non
  | _, _, _, .bl b, e => by cases e; exact .bl b
  | _, _, _, .int i, e => by cases e; exact .int i
  | _, _, _, .str x, e => by cases e; exact .str x
  | _, .tup ds, _, .tup h hs, e => by
    unfold toPy at e
    cases e2 : toPys ds with
    | none => rw [e2] at e; cases e
    | some l => rw [e2] at e; cases e; exact .tup (sqT_sub o.sub h) (dps_of o hs e2)
  | _, .lst ds, _, .lst h hs, e => by
    unfold toPy at e
    cases e2 : toPys ds with
    | none => rw [e2] at e; cases e
    | some l => rw [e2] at e; cases e; exact .lst (.of (o.sub _ _ h)) (dps_of o hs e2)
  | _, .fz ds, _, .fz h hs, e => by
    unfold toPy at e
    cases e2 : toPys ds with
    | none => rw [e2] at e; cases e
    | some l => rw [e2] at e; cases e; exact .lst (sqL_sub o.sub h) (dps_of o hs e2)
  | _, _, _, .ref _, e => by cases e
  | _, _, _, .opq _, e => by cases e
  | _, _, _, .adr _, e => by cases e
  | _, _, _, .dct _ _ _ _, e => by cases e
theorem dps_of {w : Wd} {S : Sto} (o : w.Ok K S) : ∀ {v : List V} {d : List D} {p : List PyData}, Reps K w.r w.F v d → toPys d = some p → DpAll K w.H v p
  | _, _, _, .nil, e => by cases e; exact .nil
  | _, d :: ds, _, .cons h hs, e => by
    unfold toPys at e
    cases e1 : toPy d with
    | none => rw [e1] at e; cases e
    | some a =>
      cases e2 : toPys ds with
      | none => rw [e1, e2] at e; cases e
      | some l => rw [e1, e2] at e; cases e; exact .cons (dp_of o h e1) (dps_of o hs e2)
end
theorem dpS_of {w : Wd} {S : Sto} (o : w.Ok K S) {v : V} {d : D} {p : PyData} (r : Rep K w.r w.F v d) (e : toPyS S d = some p) : Dp K w.H v p := by
  cases r with
  | @ref a n h =>
    unfold toPyS at e
    dsimp only at e
    split at e
    · rename_i xs hx
      cases e2 : toPys xs with
      | none => rw [e2] at e; cases e
      | some l =>
        rw [e2] at e
        cases e
        obtain ⟨vs, h1, h2⟩ := o.obj n _ a hx h
        exact .lst (.of h1) (dps_of o h2 e2)
    · cases e
  | non => exact dp_of o .non e
  | bl b => exact dp_of o (.bl b) e
  | int b => exact dp_of o (.int b) e
  | str b => exact dp_of o (.str b) e
  | tup h hs => exact dp_of o (.tup h hs) e
  | lst h hs => exact dp_of o (.lst h hs) e
  | fz h hs => exact dp_of o (.fz h hs) e
  | opq h => cases e
  | adr h => cases e
  | dct _ _ _ _ => cases e
def dEqG (n : Bool) (x y : D) (S : Sto) : Res D := match toPyS S x, toPyS S y with
  | some d, some e => if SeqAt.shaped d = true ∧ SeqAt.shaped e = true then .ok (.bl (if n then !PyData.eqv d e else PyData.eqv d e)) S else .bad
  | _, _ => .bad
abbrev dEq := dEqG false
abbrev dNe := dEqG true
theorem so_eqG {n : Bool} : SoR K (fun x y H Q => ∃ d e, Dp K H x d ∧ Dp K H y e ∧ SeqAt.shaped d = true ∧ SeqAt.shaped e = true ∧ Q (.bl (if n then !PyData.eqv d e else PyData.eqv d e)) H) (dEqG n) := by
  intro W w σ S x y d e Q o rx ry h
  unfold dEqG at h
  cases e1 : toPyS S d with
  | none => rw [e1] at h; exact h.elim
  | some l =>
    cases e2 : toPyS S e with
    | none => rw [e1, e2] at h; exact h.elim
    | some m =>
      rw [e1, e2] at h
      dsimp only at h
      split at h
      · rename_i hz
        exact ⟨l, m, dpS_of o rx e1, dpS_of o ry e2, hz.1, hz.2, h.now o (.bl _)⟩
      · exact h.elim
theorem so_eq : SoR K (rEqD K) dEq := fun W w σ S x y d e Q o rx ry h => so_eqG (n := false) W w σ S x y d e Q o rx ry h
theorem so_ne : SoR K (rNeD K) dNe := fun W w σ S x y d e Q o rx ry h => so_eqG (n := true) W w σ S x y d e Q o rx ry h
theorem tr_eq {k : Nat} (hr : Room k X.A) (ha : Tr X B W a ma) (hb : Tr X B W b mb) : Tr X B W (.Compare a [.Eq] [b] pos) (mOp dEq ma mb) := tr_cmp (op_eqD hr.units) so_eq ha hb
theorem tr_ne {k : Nat} (hr : Room k X.A) (ha : Tr X B W a ma) (hb : Tr X B W b mb) : Tr X B W (.Compare a [.NotEq] [b] pos) (mOp dNe ma mb) := tr_cmp (op_neD hr.units) so_ne ha hb
theorem tb_eq {k : Nat} (hr : Room k X.A) (ha : Tr X B W a ma) (hb : Tr X B W b mb) : TrB X B W (.Compare a [.Eq] [b] pos) (mT (mOp dEq ma mb)) := tb_cmp (op_eqD hr.units) so_eq ha hb
theorem tb_ne {k : Nat} (hr : Room k X.A) (ha : Tr X B W a ma) (hb : Tr X B W b mb) : TrB X B W (.Compare a [.NotEq] [b] pos) (mT (mOp dNe ma mb)) := tb_cmp (op_neD hr.units) so_ne ha hb

/-! ### is None -/
def isNon : D → Bool
  | .non => true
  | _ => false
def dIs (n : Bool) (x y : D) (S : Sto) : Res D := match y with
  | .non => .ok (.bl (if n then !isNon x else isNon x)) S
  | _ => .bad
theorem rep_non {w : Wd} {v : V} {d : D} (r : Rep K w.r w.F v d) : decide (v = .non) = isNon d := by
  cases r <;> first | rfl | exact decide_eq_false (fun z => nomatch z)
theorem so_is : SoR K (fun x y H Q => y = .non ∧ Q (.bl (decide (x = .non))) H) (dIs false) := by
  intro W w σ S x y d e Q o rx ry h
  cases ry with
  | non => exact ⟨rfl, by rw [rep_non rx]; exact h.now o (.bl _)⟩
  | _ => exact h.elim
theorem so_isn : SoR K (fun x y H Q => y = .non ∧ Q (.bl (!decide (x = .non))) H) (dIs true) := by
  intro W w σ S x y d e Q o rx ry h
  cases ry with
  | non => exact ⟨rfl, by rw [rep_non rx]; exact h.now o (.bl _)⟩
  | _ => exact h.elim
theorem tr_is (ha : Tr X B W a ma) (hb : Tr X B W b mb) : Tr X B W (.Compare a [.Is] [b] pos) (mOp (dIs false) ma mb) := tr_cmp op_isN so_is ha hb
theorem tr_isn (ha : Tr X B W a ma) (hb : Tr X B W b mb) : Tr X B W (.Compare a [.IsNot] [b] pos) (mOp (dIs true) ma mb) := tr_cmp op_notN so_isn ha hb
theorem tb_is (ha : Tr X B W a ma) (hb : Tr X B W b mb) : TrB X B W (.Compare a [.Is] [b] pos) (mT (mOp (dIs false) ma mb)) := tb_cmp op_isN so_is ha hb
theorem tb_isn (ha : Tr X B W a ma) (hb : Tr X B W b mb) : TrB X B W (.Compare a [.IsNot] [b] pos) (mT (mOp (dIs true) ma mb)) := tb_cmp op_notN so_isn ha hb

/-! ### in, not in -/
def toFl : D → Option V
  | .non => some .non
  | .bl b => some (.bl b)
  | .int i => some (.int i)
  | .str x => some (.str x)
  | _ => none
theorem toFl_of {w : Wd} {v : V} {d : D} {u : V} (r : Rep K w.r w.F v d) (e : toFl d = some u) : v = u ∧ flatV u = true := by
  cases r <;> first | (cases e; exact ⟨rfl, rfl⟩) | cases e
def toFls : List D → Option (List V)
  | [] => some []
  | x :: xs => match toFl x, toFls xs with
    | some a, some b => some (a :: b)
    | _, _ => none
theorem toFls_of {w : Wd} : ∀ {vs : List V} {ds : List D} {us : List V}, Reps K w.r w.F vs ds → toFls ds = some us → vs = us ∧ us.all flatV = true
  | _, _, _, .nil, e => by cases e; exact ⟨rfl, rfl⟩
  | _, d :: ds, _, .cons h hs, e => by
    unfold toFls at e
    cases e1 : toFl d with
    | none => rw [e1] at e; cases e
    | some a =>
      cases e2 : toFls ds with
      | none => rw [e1, e2] at e; cases e
      | some l =>
        rw [e1, e2] at e
        cases e
        obtain ⟨h1, h2⟩ := toFl_of h e1
        obtain ⟨h3, h4⟩ := toFls_of hs e2
        exact ⟨by rw [h1, h3], by rw [List.all_cons, h2, h4] <;> rfl⟩
def dIn (n : Bool) (x y : D) (S : Sto) : Res D := match toFl x, (dSq S y).bind toFls with
  | some u, some us => .ok (.bl (if n then !inV u us else inV u us)) S
  | _, _ => .bad
theorem so_in {n : Bool} : SoR K (rIn K n) (dIn n) := by
  intro W w σ S x y d e Q o rx ry h
  unfold dIn at h
  cases e1 : toFl d with
  | none => rw [e1] at h; exact h.elim
  | some u =>
    cases e2 : dSq S e with
    | none => rw [e1, e2] at h; exact h.elim
    | some xs =>
      rw [e1, e2] at h
      cases e3 : toFls xs with
      | none => rw [Option.bind_some, e3] at h; exact h.elim
      | some us =>
        rw [Option.bind_some, e3] at h
        obtain ⟨p, vs, rfl, hp, hs⟩ := dSq_at o ry e2
        obtain ⟨rfl, f1⟩ := toFl_of rx e1
        obtain ⟨rfl, f2⟩ := toFls_of hs e3
        exact ⟨p, vs, rfl, hp.symm, f1, f2, h.now o (.bl _)⟩
theorem tr_in (ha : Tr X B W a ma) (hb : Tr X B W b mb) (hm : behindInMarks .In b = false := by first | rfl | with_unfolding_all rfl) : Tr X B W (.Compare a [.In] [b] pos) (mOp (dIn false) ma mb) := tr_cmp op_in_seq so_in ha hb hm
theorem tb_in (ha : Tr X B W a ma) (hb : Tr X B W b mb) (hm : behindInMarks .In b = false := by first | rfl | with_unfolding_all rfl) : TrB X B W (.Compare a [.In] [b] pos) (mT (mOp (dIn false) ma mb)) := tb_cmp op_in_seq so_in ha hb hm
theorem tr_nin (ha : Tr X B W a ma) (hb : Tr X B W b mb) (hm : behindInMarks .NotIn b = false := by first | rfl | with_unfolding_all rfl) : Tr X B W (.Compare a [.NotIn] [b] pos) (mOp (dIn true) ma mb) := tr_cmp op_notIn_seq so_in ha hb hm
theorem tb_nin (ha : Tr X B W a ma) (hb : Tr X B W b mb) (hm : behindInMarks .NotIn b = false := by first | rfl | with_unfolding_all rfl) : TrB X B W (.Compare a [.NotIn] [b] pos) (mT (mOp (dIn true) ma mb)) := tb_cmp op_notIn_seq so_in ha hb hm
/-- one sign in a text -/
def dSg (x y : D) (S : Sto) : Res D := match x, y with
  | .str x, .str z => match x.cps.toList with
    | [c] => .ok (.bl (decide (c ∈ z.cps.toList))) S
    | _ => .bad
  | _, _ => .bad
theorem so_sg : SoR K (fun x y H Q => ∃ (c : Nat) (z : Str), x = .str ⟨#[c]⟩ ∧ y = .str z ∧ Q (.bl (decide (c ∈ z.cps.toList))) H) dSg := by
  intro W w σ S x y d e Q o rx ry h
  cases rx with
  | str i =>
    cases ry with
    | str j =>
      unfold dSg at h
      dsimp only at h
      split at h
      · rename_i c hc
        refine ⟨c, j, ?_, rfl, h.now o (.bl _)⟩
        obtain ⟨⟨l⟩⟩ := i
        have hc' : l = [c] := hc
        rw [hc']
      · exact h.elim
    | _ => exact h.elim
  | _ => cases ry <;> exact h.elim
theorem tr_sg (ha : Tr X B W a ma) (hb : Tr X B W b mb) (hm : behindInMarks .In b = false := by first | rfl | with_unfolding_all rfl) : Tr X B W (.Compare a [.In] [b] pos) (mOp dSg ma mb) := tr_cmp op_in_sign so_sg ha hb hm
theorem tb_sg (ha : Tr X B W a ma) (hb : Tr X B W b mb) (hm : behindInMarks .In b = false := by first | rfl | with_unfolding_all rfl) : TrB X B W (.Compare a [.In] [b] pos) (mT (mOp dSg ma mb)) := tb_cmp op_in_sign so_sg ha hb hm

/-! ### subscripts -/
def dIx (x y : D) (S : Sto) : Res D := match y with
  | .int i => match x with
    | .str z => if z.length ≤ big then match atI z.cps.toList i with
        | some c => .ok (.str ⟨#[c]⟩) S
        | none => .bad
      else .bad
    | x => match (dSq S x).bind fun xs => atI xs i with
      | some d => .ok d S
      | none => .bad
  | _ => .bad
theorem atI_reps {w : Wd} {vs : List V} {ds : List D} {i : Int} {d : D} (h : Reps K w.r w.F vs ds) (e : atI ds i = some d) : ∃ v, atI vs i = some v ∧ Rep K w.r w.F v d := by
  unfold atI at e ⊢
  rw [h.len]
  cases e1 : ixN ds.length i with
  | none => rw [e1] at e; cases e
  | some j =>
    rw [e1] at e
    exact h.get e
theorem so_ix : SoR K (rIx K) dIx := by
  intro W w σ S x y d e Q o rx ry h
  cases ry with
  | int i =>
    have seq : ∀ {d : D}, Rep K w.r w.F x d → PoE K W w σ (match (dSq S d).bind fun xs => atI xs i with | some d => .ok d S | none => .bad) Q → rIx K x (.int i) w.H Q := fun {d} rx h => by
      cases e2 : dSq S d with
      | none => rw [e2] at h; exact h.elim
      | some xs =>
        rw [e2, Option.bind_some] at h
        cases e3 : atI xs i with
        | none => rw [e3] at h; exact h.elim
        | some u =>
          rw [e3] at h
          obtain ⟨p, vs, rfl, hp, hs⟩ := dSq_at o rx e2
          obtain ⟨v, h1, h2⟩ := atI_reps hs e3
          rcases hp with hp | hp
          · exact .inr (.inl ⟨p, vs, i, v, rfl, rfl, hp, h1, h.now o h2⟩)
          · exact .inl ⟨p, vs, i, v, rfl, rfl, hp, h1, h.now o h2⟩
    cases rx with
    | str z =>
      unfold dIx at h
      dsimp only at h
      split at h
      · rename_i hz
        cases e3 : atI z.cps.toList i with
        | none => rw [e3] at h; exact h.elim
        | some c =>
          rw [e3] at h
          exact .inr (.inr ⟨z, i, c, rfl, rfl, big_le hz, e3, h.now o (.str _)⟩)
      · exact h.elim
    | non => exact h.elim
    | bl _ => exact h.elim
    | int _ => exact h.elim
    | opq _ => exact h.elim
    | adr _ => exact h.elim
    | dct _ _ _ _ => exact h.elim
    | tup h1 h2 => exact seq (.tup h1 h2) h
    | lst h1 h2 => exact seq (.lst h1 h2) h
    | fz h1 h2 => exact seq (.fz h1 h2) h
    | ref h1 => exact seq (.ref h1) h
  | _ => exact h.elim
theorem tr_ix (ha : Tr X B W a ma) (hb : Tr X B W b mb) (hs : PlainIx b := by exact fun _ _ => rfl) : Tr X B W (.Subscript a b pos) (mOp dIx ma mb) := imE (pe_ix ix_seq ha hb hs) fun σ H Q h => so_op so_ix h
/-! slices: of texts, tuples, lists -/
abbrev Od := En → Sto → Res (Option Int)
def PoO (K : PySem.W.Frag) (W : WX) (w : Wd) (σ : L2.St) (r : Res (Option Int)) (Q : Option Int → Hp → Prop) : Prop := match r with
  | .ok b S' => ∀ w', Step w w' → w'.Ok K S' → Q b w'.H
  | .exc c fs S' => ∀ w' dx vs, Step w w' → w'.Ok K S' → ExAt w' dx vs → Fld K w'.r w'.F vs fs → W (.ref c) (some dx) σ w'.H
  | .bad => False
theorem PoE.bindO {w : Wd} {σ : L2.St} {r : Res (Option Int)} {f : Option Int → Sto → Res D} {Q : VK} {Q' : Option Int → Hp → Prop} (h : PoE K W w σ (r.bind f) Q) (k : ∀ d S w', r = .ok d S → Step w w' → w'.Ok K S → PoE K W w' σ (f d S) Q → Q' d w'.H) : PoO K W w σ r Q' := by
  cases r with
  | ok d S => exact fun w2 t o => k d S w2 rfl t o (PoE.step t h)
  | exc c fs S => exact h
  | bad => exact h
def cO (K : PySem.W.Frag) (B : Bs) (W : WX) (m : Od) : TO := fun σ H Q => ∃ r F Γ S, Wd.Ok K ⟨r, F, H⟩ S ∧ EnOk K B ⟨r, F, H⟩ Γ σ ∧ PoO K W ⟨r, F, H⟩ σ (m Γ S) Q
def TrO (X : Cx) (B : Bs) (W : WX) (e : Option Expr) (m : Od) : Prop := PO X e (cO X.K B W m)
theorem imO {o : Option Expr} {t t' : TO} (h : PO X o t) (k : ∀ σ H Q, t' σ H Q → t σ H Q) : PO X o t' := ⟨fun p s σ H Q I q => h.run p s σ H Q I (k _ _ _ q)⟩
def oNo : Od := fun _ S => .ok none S
def oSo (a : Ed) : Od := fun Γ S => (a Γ S).bind fun x S1 => match x with
  | .int i => .ok (some i) S1
  | _ => .bad
theorem to_no : TrO X B W none oNo := imO po_none fun σ H Q ⟨_, _, Γ, S, o, g, q⟩ => q _ (Step.refl _) o
theorem PoO.bindE {w : Wd} {σ : L2.St} {r : Res D} {f : D → Sto → Res (Option Int)} {Q : Option Int → Hp → Prop} {Q' : VK} (h : PoO K W w σ (r.bind f) Q) (k : ∀ d S w' v, r = .ok d S → Step w w' → w'.Ok K S → Rep K w'.r w'.F v d → PoO K W w' σ (f d S) Q → Q' v w'.H) : PoE K W w σ r Q' := by
  cases r with
  | ok d S =>
    intro w2 v t o r
    refine k d S w2 v rfl t o r ?_
    have h : PoO K W w σ (f d S) Q := h
    cases e : f d S with
    | ok b S2 => rw [e] at h; exact fun w3 t3 o3 => h w3 (t.trans t3) o3
    | exc c fs S2 => rw [e] at h; exact fun w3 dx vs t3 o3 e3 r3 => h w3 dx vs (t.trans t3) o3 e3 r3
    | bad => rw [e] at h; exact h
  | exc c fs S => exact h
  | bad => exact h
theorem to_so (ha : Tr X B W a ma) : TrO X B W (some a) (oSo ma) := by
  refine imO (po_some ha) fun σ H Q h => ?_
  obtain ⟨r0, F, Γ, S, o, g, q⟩ := h
  refine ⟨r0, F, Γ, S, o, g, PoO.bindE q fun d S1 w1 v _ t1 o1 rp1 q1 => ?_⟩
  cases rp1 with
  | int i => exact ⟨i, rfl, q1 _ (Step.refl _) o1⟩
  | _ => exact q1.elim
def cutD (xs : List D) (lo hi : Option Int) : List D := (xs.drop (HT.sIx xs.length 0 lo)).take (HT.sIx xs.length xs.length hi - HT.sIx xs.length 0 lo)
theorem cut_reps {w : Wd} {vs : List V} {ds : List D} (h : Reps K w.r w.F vs ds) (lo hi : Option Int) : Reps K w.r w.F (cutV vs lo hi) (cutD ds lo hi) := by
  unfold cutV cutD
  rw [h.len]
  exact (h.drop _).take _
theorem cut_whole {xs : List D} {lo hi : Option Int} (h : HT.sIx xs.length 0 lo = 0 ∧ HT.sIx xs.length xs.length hi = xs.length) : cutD xs lo hi = xs := by
  unfold cutD
  rw [h.1, h.2, List.drop_zero, Nat.sub_zero, List.take_length]
def dSl (f : Bool) (x : D) (lo hi : Option Int) (S : Sto) : Res D := match x with
  | .str z => if z.length ≤ big then .ok (.str (cutS z lo hi)) S else .bad
  | .tup xs => .ok (.tup (cutD xs lo hi)) S
  | x => match dL S x with
    | some xs => mkL f (cutD xs lo hi) S
    | none => .bad
def mSl (f : Bool) (a : Ed) (l u : Od) : Ed := fun Γ S => (a Γ S).bind fun x S1 => (l Γ S1).bind fun lo S2 => (u Γ S2).bind fun hi S3 => dSl f x lo hi S3
def rSl (K : PySem.W.Frag) : V → Option Int → Option Int → Hp → VK → Prop := fun x lo hi H Q => (rSlS x lo hi H Q ∨ rSlA K x lo hi H Q) ∨ rSlL K x lo hi H Q
theorem sl_any : SlR X (rSl X.K) := (sl_str.or sl_tupA).or sl_list
theorem so_sl {f : Bool} {w : Wd} {σ : L2.St} {S : Sto} {x : V} {d : D} {lo hi : Option Int} {Q : VK} (o : w.Ok K S) (rx : Rep K w.r w.F x d) (h : PoE K W w σ (dSl f d lo hi S) Q) : rSl K x lo hi w.H Q := by
  have ls : ∀ {d : D}, Rep K w.r w.F x d → PoE K W w σ (match dL S d with | some xs => mkL f (cutD xs lo hi) S | none => .bad) Q → rSl K x lo hi w.H Q := fun {d} rx h => by
    cases e : dL S d with
    | none => rw [e] at h; exact h.elim
    | some xs =>
      rw [e] at h
      obtain ⟨p, vs, rfl, hp, hs⟩ := dL_at o rx e
      exact .inr ⟨p, vs, rfl, hp, fun p2 hp2 => mkL_ok o h (cut_reps hs lo hi) p2 hp2⟩
  cases rx with
  | str z =>
    unfold dSl at h
    dsimp only at h
    split at h
    · rename_i hz
      exact .inl (.inl ⟨z, rfl, big_le hz, h.now o (.str _)⟩)
    · exact h.elim
  | @tup p vs xs hp hs =>
    refine .inl (.inr ⟨p, vs, rfl, sqT_sub o.sub hp, fun hw => ?_, fun _ p2 hp2 => mkT_ok o h (cut_reps hs lo hi) p2 hp2⟩)
    rw [hs.len] at hw
    have h' : PoE K W w σ (.ok (.tup (cutD xs lo hi)) S) Q := h
    rw [cut_whole hw] at h'
    exact h'.now o (.tup hp hs)
  | non => exact h.elim
  | bl _ => exact h.elim
  | int _ => exact h.elim
  | opq _ => exact h.elim
  | adr _ => exact h.elim
  | dct _ _ _ _ => exact h.elim
  | lst h1 h2 => exact ls (.lst h1 h2) h
  | fz h1 h2 => exact ls (.fz h1 h2) h
  | ref h1 => exact ls (.ref h1) h
theorem tr_sl (f : Bool) {lo hi : Option Expr} {ml mu : Od} {p2 : Pos} (ha : Tr X B W a ma) (hl : TrO X B W lo ml) (hu : TrO X B W hi mu) : Tr X B W (.Subscript a (.Slice lo hi none p2) pos) (mSl f ma ml mu) := by
  refine imE (pe_slice sl_any ha hl hu) fun σ H Q h => ?_
  obtain ⟨r0, F, Γ, S, o, g, q⟩ := h
  refine ⟨r0, F, Γ, S, o, g, PoE.bindE q fun d S1 w1 v _ t1 o1 rp1 q1 => ?_⟩
  refine ⟨w1.r, w1.F, Γ, S1, o1, g.step t1, PoE.bindO q1 fun d2 S2 w2 _ t2 o2 q2 => ?_⟩
  refine ⟨w2.r, w2.F, Γ, S2, o2, g.step (t1.trans t2), PoE.bindO q2 fun d3 S3 w3 _ t3 o3 q3 => ?_⟩
  exact so_sl o3 (rp1.up (t2.trans t3).pre (t2.trans t3).sub) q3
end
end Fx
end

section
set_option Elab.async false
set_option linter.all false
set_option maxRecDepth 100000
set_option maxHeartbeats 2000000
namespace Fx
open PySem PySem.Spec PyProof.Rows L2

/-! ## calls of defs -/
section
variable {X : Cx} {K : PySem.W.Frag} {B : Bs} {W : WX} {a b c e o : Expr} {es : List Expr} {p pos apos : Pos} {ma mb mc : Ed} {mA : Ad}
abbrev WE0 (E : XK) : WX := fun c d _ H => E c d H
/-- what a def promises: n arguments, the function f -/
def SpF (K : PySem.W.Frag) (n : Nat) (f : Fn) : Sp := fun vs H Q E => ∃ r F S ds, Wd.Ok K ⟨r, F, H⟩ S ∧ Reps K r F vs ds ∧ ds.length = n ∧ PoE K (WE0 E) ⟨r, F, H⟩ [] (f ds S) Q
theorem PoE.at0 {w : Wd} {σ : L2.St} {r : Res D} {Q : VK} (h : PoE K W w σ r Q) : PoE K (WE0 (WE W σ)) w [] r Q := by cases r <;> exact h
theorem PoE.at0' {w : Wd} {σ : L2.St} {r : Res D} {Q : VK} {E : XK} (h : PoE K (WE0 E) w σ r Q) : PoE K (WE0 E) w [] r Q := by cases r <;> exact h
/-- the function is asked of n things alone -/
def arg (n : Nat) (f : Fn) : Fn := fun ds S => if ds.length = n then f ds S else .bad
def mCall (n : Nat) (f : Fn) (a : Ad) : Ed := fun Γ S => (a Γ S).bind (arg n f)
theorem arg_ok {n : Nat} {f : Fn} {ds : List D} {S : Sto} {w : Wd} {σ : L2.St} {Q : VK} (h : PoE K W w σ (arg n f ds S) Q) : ds.length = n ∧ PoE K W w σ (f ds S) Q := by
  unfold arg at h
  split at h
  · rename_i hl
    exact ⟨hl, h⟩
  · exact h.elim
theorem tr_call {k : Nat} {f : Addr} {fd : FuncData} {ps : List Str} {fn : Fn} {x : Str} (F : FnOk X.prog X.w X.K X.mg X.base (L2.CX X.prog X.w) k f fd ps (SpF X.K ps.length fn)) (hr : Room k X.A) (hm : X.mg x = some (.ref f)) (hk : PySem.W.keepIn X.K (.ref f) = true)
    (hb : Binds X.K fd ps []) (tk : Takes X W) (ha : TrA X B W (e :: es) mA) (hg : Gl X x := by rfl) (hdb : (x == ("__debug__" : Str)) = false := by decide) (he : starEach (e :: es) X.env = (false, eval e X.env) :: starEach es X.env := by rfl)
    (hpl : (backTo pos (starEach es X.env)).any (·.1) = false := by rfl) : Tr X B W (.Call (.Name x p) (e :: es) [] pos) (mCall ps.length fn mA) := by
  refine imE (pe_callS F hr hg hm hk hb (passAt tk) ha hdb he hpl) fun σ H Q h => ?_
  obtain ⟨r0, F0, Γ, S, o, g, q⟩ := h
  refine ⟨r0, F0, Γ, S, o, g, PoE.bindA q fun d S1 w1 v _ t1 o1 rp1 q1 => ?_⟩
  obtain ⟨hl, q2⟩ := arg_ok q1
  exact ⟨w1.r, w1.F, S1, d, o1, rp1, hl, q2.at0⟩
/-- f() -/
theorem tr_call0 {k : Nat} {f : Addr} {fd : FuncData} {ps : List Str} {fn : Fn} {x : Str} (F : FnOk X.prog X.w X.K X.mg X.base (L2.CX X.prog X.w) k f fd ps (SpF X.K ps.length fn)) (hr : Room k X.A) (hm : X.mg x = some (.ref f)) (hk : PySem.W.keepIn X.K (.ref f) = true)
    (hb : Binds X.K fd ps []) (tk : Takes X W) (hg : Gl X x := by rfl) (hdb : (x == ("__debug__" : Str)) = false := by decide) : Tr X B W (.Call (.Name x p) [] [] pos) (mCall ps.length fn aNil) := by
  refine ⟨fun pins s σ H Q I h => ?_⟩
  refine wpAny_Call_Name_kw (ld_glob I hg hm ?_ hdb)
  obtain ⟨r0, F0, Γ, S, o, g, q⟩ := h
  obtain ⟨hl, q2⟩ := arg_ok (ds := []) (S := S) q
  exact PySem.W.callWith_K0 I.kIn hk (run_fnS (us := []) (vs := []) (E := WE W) F hr hb (passAt tk σ) I .nil ⟨r0, F0, S, [], o, .nil, hl, q2.at0⟩)

/-! ## instances -/
def putD (f : Str) (v : D) : List (Str × D) → List (Str × D)
  | [] => [(f, v)]
  | (g, u) :: r => if g = f then (f, v) :: r else (g, u) :: putD f v r
theorem Fld.look {r : List Addr} {F : Hp} {f : Str} {d : D} : ∀ {vs : List (Str × V)} {fs : List (Str × D)}, Fld K r F vs fs → fs.lookup f = some d → ∃ v, vs.lookup f = some v ∧ Rep K r F v d
  | _, _, .nil, e => by simp at e
  | (g, u) :: vs, (g', d') :: fs, .cons ⟨h1, h2⟩ t, e => by
    have h1 : g = g' := h1
    subst h1
    rw [List.lookup_cons] at e ⊢
    split at e
    · cases e
      rename_i hq
      exact ⟨u, rfl, h2⟩
    · rename_i hq
      exact Fld.look t e
theorem Fld.noLook {r : List Addr} {F : Hp} {f : Str} : ∀ {vs : List (Str × V)} {fs : List (Str × D)}, Fld K r F vs fs → fs.lookup f = none → vs.lookup f = none
  | _, _, .nil, _ => rfl
  | (g, u) :: vs, (g', d') :: fs, .cons ⟨h1, h2⟩ t, e => by
    have h1 : g = g' := h1
    subst h1
    rw [List.lookup_cons] at e ⊢
    split at e
    · cases e
    · exact Fld.noLook t e
theorem Fld.put {r : List Addr} {F : Hp} {f : Str} {v : V} {d : D} (h : Rep K r F v d) : ∀ {vs : List (Str × V)} {fs : List (Str × D)}, Fld K r F vs fs → Fld K r F (putF f v vs) (putD f d fs)
  | _, _, .nil => .cons ⟨rfl, h⟩ .nil
  | (g, u) :: vs, (g', d') :: fs, .cons ⟨h1, h2⟩ t => by
    have h1 : g = g' := h1
    subst h1
    unfold putF putD
    by_cases hq : g = f
    · rw [if_pos hq, if_pos hq]
      exact .cons ⟨hq, h⟩ t
    · rw [if_neg hq, if_neg hq]
      exact .cons ⟨rfl, h2⟩ (Fld.put h t)
theorem Fld.len {r : List Addr} {F : Hp} {vs : List (Str × V)} {fs : List (Str × D)} (h : Fld K r F vs fs) : vs.length = fs.length := Paired.length h
/-- o.f of an instance whose class is one of G -/
def dFld (G : Addr → Bool) (f : Str) (x : D) (S : Sto) : Res D := match x with
  | .ref n => match S[n]? with
    | some (.ins C fs) => if G C = true then match fs.lookup f with
        | some d => .ok d S
        | none => .bad
      else .bad
    | _ => .bad
  | _ => .bad
def Plain (K : PySem.W.Frag) (G : Addr → Bool) (f : Str) : Prop := ∀ C, G C = true → Cls K C ∧ NoAttr K C f
theorem tr_fld {G : Addr → Bool} {f : Str} (hG : Plain X.K G f) (ha : Tr X B W a ma) (hb : attributeBase a f X.env (eval a X.env) = eval a X.env := by rfl) : Tr X B W (.Attribute a f pos) (mUn (dFld G f) ma) := by
  refine imE (pe_fld ha hb) fun σ H Q h => ?_
  obtain ⟨r0, F0, Γ, S, o, g, q⟩ := h
  refine ⟨r0, F0, Γ, S, o, g, PoE.bindE q fun d S1 w1 v _ t1 o1 rp1 q1 => ?_⟩
  cases rp1 with
  | @ref p n hp =>
    unfold dFld at q1
    dsimp only at q1
    cases e1 : S1[n]? with
    | none => rw [e1] at q1; exact q1.elim
    | some ob =>
      rw [e1] at q1
      cases ob with
      | ins C fs =>
        dsimp only at q1
        split at q1
        · rename_i hC
          cases e2 : fs.lookup f with
          | none => rw [e2] at q1; exact q1.elim
          | some d =>
            rw [e2] at q1
            obtain ⟨dx, vs, h1, h2⟩ := o1.obj n _ p e1 hp
            obtain ⟨v, h3, h4⟩ := h2.look e2
            exact ⟨p, C, dx, vs, v, rfl, h1, (hG C hC).1, (hG C hC).2, h3, q1.now o1 h4⟩
        · exact q1.elim
      | _ => exact q1.elim
  | _ => exact q1.elim
/-- o.m(..) -/
def dMeth (G : Addr → Bool) (m : Str) (k : D → Sto → Res D) (x : D) (S : Sto) : Res D := match x with
  | .ref i => match S[i]? with
    | some (.ins C fs) => if G C = true then match fs.lookup m with
        | none => k (.ref i) S
        | some _ => .bad
      else .bad
    | _ => .bad
  | _ => .bad
def mMeth (G : Addr → Bool) (m : Str) (n : Nat) (f : Fn) (a : Ed) (b : Ad) : Ed := fun Γ S => (a Γ S).bind fun x S1 => dMeth G m (fun x S1 => (b Γ S1).bind fun ds S2 => arg n f (x :: ds) S2) x S1
structure MethF (K : PySem.W.Frag) (G : Addr → Bool) (m : Str) (f : Addr) : Prop where
  ok : ∀ C, G C = true → Cls K C ∧ Meth K C m f
  kp : PySem.W.keepIn K (.ref f) = true
theorem meth_at {G : Addr → Bool} {m : Str} {f : Addr} (hM : MethF K G m f) {w : Wd} {σ : L2.St} {S : Sto} {x : V} {d : D} {kk : D → Sto → Res D} {Q : VK} (o1 : w.Ok K S) (rp : Rep K w.r w.F x d)
    (q1 : PoE K W w σ (dMeth G m kk d S) Q) : ∃ p C dx vs, x = .ref p ∧ w.H p = some (.ins C dx vs) ∧ Cls K C ∧ Meth K C m f ∧ vs.lookup m = none ∧ PoE K W w σ (kk d S) Q := by
  cases rp with
  | @ref p i hp =>
    unfold dMeth at q1
    dsimp only at q1
    cases e1 : S[i]? with
    | none => rw [e1] at q1; exact q1.elim
    | some ob =>
      rw [e1] at q1
      cases ob with
      | ins C fs =>
        dsimp only at q1
        split at q1
        · rename_i hC
          cases e2 : fs.lookup m with
          | some _ => rw [e2] at q1; exact q1.elim
          | none =>
            rw [e2] at q1
            obtain ⟨dx, vs, h1, h2⟩ := o1.obj i _ p e1 hp
            exact ⟨p, C, dx, vs, rfl, h1, (hM.ok C hC).1, (hM.ok C hC).2, h2.noLook e2, q1⟩
        · exact q1.elim
      | _ => exact q1.elim
  | _ => exact q1.elim
theorem tr_meth {pl : Sem Bool} {k : Nat} {f : Addr} {fd : FuncData} {ps : List Str} {fn : Fn} {m : Str} {G : Addr → Bool} (F : FnOk X.prog X.w X.K X.mg X.base (L2.CX X.prog X.w) k f fd ps (SpF X.K ps.length fn)) (hr : Room k X.A) (hM : MethF X.K G m f)
    (hb : Binds X.K fd ps []) (tk : Takes X W) (ho : Tr X B W o ma) (ha : TrA X B W (e :: es) mA)
    (hst : starEach (e :: es) X.env = (false, eval e X.env) :: starEach es X.env := by rfl) (hpl : (backTo pos (starEach es X.env)).any (·.1) = false := by rfl)
    (ht : eval (.Call (.Attribute o m apos) (e :: es) [] pos) X.env = (do
      let ov ← eval o X.env
      standAt apos.atName
      let (f, first) ← holding [ov] (getMethod ov m pl)
      callWith pos f first (backTo pos (starEach (e :: es) X.env)) (backToKw pos (keywordEach [] X.env))) := by rfl) : Tr X B W (.Call (.Attribute o m apos) (e :: es) [] pos) (mMeth G m ps.length fn ma mA) := by
  refine ⟨fun pins s σ H Q I h => ?_⟩
  obtain ⟨r0, F0, Γ, S, oo, g, q⟩ := h
  have h1 : cE X.K B W ma σ H (fun x H1 => ∃ p C dx vs, x = .ref p ∧ H1 p = some (.ins C dx vs) ∧ Cls X.K C ∧ Meth X.K C m f ∧ vs.lookup m = none ∧ cA X.K B W mA σ H1 (fun us H2 => SpF X.K ps.length fn (x :: us) H2 Q (WE W σ))) := by
    refine ⟨r0, F0, Γ, S, oo, g, PoE.bindE q fun d S1 w1 v _ t1 o1 rp1 q1 => ?_⟩
    obtain ⟨p, C, dx, vs, e1, e2, e3, e4, e5, q2⟩ := meth_at hM o1 rp1 q1
    refine ⟨p, C, dx, vs, e1, e2, e3, e4, e5, w1.r, w1.F, Γ, S1, o1, g.step t1, PoE.bindA q2 fun ds S2 w2 us _ t2 o2 rp2 q3 => ?_⟩
    obtain ⟨hl, q4⟩ := arg_ok q3
    exact ⟨w2.r, w2.F, S2, d :: ds, o2, .cons (rp1.up t2.pre t2.sub) rp2, hl, q4.at0⟩
  refine PySem.W.methodCall_KW (pl := pl) (thn (ho.run pins s σ H _ I h1) fun u s1 ⟨x, H1, I1, rx, a, C, dx, fs, ex, ea, hc, hm, l, q⟩ => ?_) ht
  subst ex
  obtain rfl : u = Value.ref a := rx
  refine getmeth_ok I1 ea hc hm l ?_
  refine PySem.W.callWith_K (first := [.ref a]) (h₀ := X.base) I.ok.mod.kin hM.kp (thn (ha.run pos pins s1 σ H1 _ I1 q) fun us s2 ⟨vs, H2, I2, r, q2⟩ => ⟨I2.kIn, ?_⟩) hst hpl
  exact run_fnS (E := WE W) (us := .ref a :: us) (vs := .ref a :: vs) F hr hb (passAt tk σ) I2 (.cons rfl r) q2
theorem tr_meth0 {pl : Sem Bool} {k : Nat} {f : Addr} {fd : FuncData} {ps : List Str} {fn : Fn} {m : Str} {G : Addr → Bool} (F : FnOk X.prog X.w X.K X.mg X.base (L2.CX X.prog X.w) k f fd ps (SpF X.K ps.length fn)) (hr : Room k X.A) (hM : MethF X.K G m f)
    (hb : Binds X.K fd ps []) (tk : Takes X W) (ho : Tr X B W o ma)
    (ht : eval (.Call (.Attribute o m apos) [] [] pos) X.env = (do
      let ov ← eval o X.env
      standAt apos.atName
      let (f, first) ← holding [ov] (getMethod ov m pl)
      callWith pos f first (backTo pos (starEach [] X.env)) (backToKw pos (keywordEach [] X.env))) := by rfl) : Tr X B W (.Call (.Attribute o m apos) [] [] pos) (mMeth G m ps.length fn ma aNil) := by
  refine ⟨fun pins s σ H Q I h => ?_⟩
  obtain ⟨r0, F0, Γ, S, oo, g, q⟩ := h
  have h1 : cE X.K B W ma σ H (fun x H1 => ∃ p C dx vs, x = .ref p ∧ H1 p = some (.ins C dx vs) ∧ Cls X.K C ∧ Meth X.K C m f ∧ vs.lookup m = none ∧ SpF X.K ps.length fn [x] H1 Q (WE W σ)) := by
    refine ⟨r0, F0, Γ, S, oo, g, PoE.bindE q fun d S1 w1 v _ t1 o1 rp1 q1 => ?_⟩
    obtain ⟨p, C, dx, vs, e1, e2, e3, e4, e5, q2⟩ := meth_at hM o1 rp1 q1
    obtain ⟨hl, q4⟩ := arg_ok (ds := [d]) (S := S1) q2
    exact ⟨p, C, dx, vs, e1, e2, e3, e4, e5, w1.r, w1.F, S1, [d], o1, .cons rp1 .nil, hl, q4.at0⟩
  refine PySem.W.methodCall_KW (pl := pl) (thn (ho.run pins s σ H _ I h1) fun u s1 ⟨x, H1, I1, rx, a, C, dx, fs, ex, ea, hc, hm, l, q⟩ => ?_) ht
  subst ex
  obtain rfl : u = Value.ref a := rx
  refine getmeth_ok I1 ea hc hm l ?_
  exact PySem.W.callWith_K0 (first := [.ref a]) I1.kIn hM.kp (run_fnS (E := WE W) (us := [.ref a]) (vs := [.ref a]) F hr hb (passAt tk σ) I1 (.cons rfl .nil) q)
/-- C(..): a new instance that may change -/
def mMake (C : Addr) (n : Nat) (f : Fn) (a : Ad) : Ed := fun Γ S => (a Γ S).bind fun ds S1 => (arg n f (.ref S1.length :: ds) (S1 ++ [.ins C []])).bind fun z S2 => match z with
  | .non => .ok (.ref S1.length) S2
  | _ => .bad
theorem run_makeS {CX : CXT} {k : Nat} {f C : Addr} {fd : FuncData} {ps : List Str} {sp : Sp} {E : XK} {pins : List (Addr × Obj)} {σ : L2.St} {H : Hp} {s : Shared} {Q : VK} {us : List Value} {vs : List V} (M : Mk X.K C f) (F : FnOk X.prog X.w X.K X.mg X.base CX k f fd ps sp) (hr : Room (k + 1) X.A) (hb : Binds X.K fd ps [])
    (hx : PassesAt CX X σ E) (I : Inv X pins σ H s) (r : Vals vs us)
    (h : ∀ x dx, H x = none → H dx = none → dx ≠ x → sp (.ref x :: vs) (upd (upd H dx (.own x)) x (.ins C dx [])) (fun v H2 => v = .non ∧ Q (.ref x) H2) E) :
    wpAny (model X.prog X.w) X.A (call (.ref C) us) (EP X pins σ Q) X.xe s := by
  have hq := h (s.heap.objs.size + 1) s.heap.objs.size (I.hok.fresh (Nat.le_succ _)) (I.hok.fresh (Nat.le_refl _)) (Nat.ne_of_lt (Nat.lt_succ_self _))
  have I2 := Inv.made (C := C) I
  have r2 : Vals (V.ref (s.heap.objs.size + 1) :: vs) (Value.ref (s.heap.objs.size + 1) :: us) := .cons rfl r
  have hl : (Value.ref (s.heap.objs.size + 1) :: us).length = ps.length := by
    have e := r2.length
    rw [F.len _ _ _ _ hq] at e
    exact e.symm
  have hbb := hb _ (Value.ref (s.heap.objs.size + 1) :: us) I2.kIn (by rw [List.append_nil]; exact hl)
  rw [List.append_nil] at hbb
  refine wpAny_call (make_map (f := f) I.kIn M.makes M.init (beq_iff_eq.mp M.fn) (codeAny_mono (F.run _ X.stack _ _ ⟨Value.ref (s.heap.objs.size + 1) :: us, []⟩ (Value.ref (s.heap.objs.size + 1) :: us) _ _ E (hr.make C us [])
    (I2.env0.make C us []) hbb r2 hq) fun r s' hq' => ?_))
  cases r with
  | error e => exact hx pins _ _ e s' I2 hq'
  | ok fl =>
    cases fl with
    | ret u =>
      obtain ⟨v, H', I3, rv, ev, q3⟩ := I2.after hq'
      subst ev
      exact ⟨rv, ⟨V.ref (s.heap.objs.size + 1), H', I3, rfl, q3⟩⟩
    | next => exact False.elim hq'
    | brk => exact False.elim hq'
    | cont => exact False.elim hq'
theorem made_ok {w : Wd} {S : Sto} {C x dx : Addr} (o : w.Ok K S) (hx : w.H x = none) (hd : w.H dx = none) (ne : dx ≠ x) :
    Wd.Ok K ⟨w.r ++ [x], w.F, upd (upd w.H dx (.own x)) x (.ins C dx [])⟩ (S ++ [.ins C []]) ∧ Step w ⟨w.r ++ [x], w.F, upd (upd w.H dx (.own x)) x (.ins C dx [])⟩ := by
  have o1 : Wd.Ok K ⟨w.r, w.F, upd w.H dx (.own x)⟩ S := by
    refine ⟨fun a y e => ?_, o.len, o.nd, fun n y a e1 e2 => ?_, o.out, fun n a e2 => ?_⟩
    · show upd w.H dx _ a = some y
      rw [upd_ne (ne_of_none (o.sub a y e) hd)]
      exact o.sub a y e
    · exact (o.obj n y a e1 e2).up (List.prefix_refl _) (SubH.refl _) (upd_ne fun z => o.there n a e2 (by rw [z]; exact hd))
    · show upd w.H dx _ a ≠ none
      rw [upd_ne fun z => o.there n a e2 (by rw [z]; exact hd)]
      exact o.there n a e2
  have t1 : Step w ⟨w.r, w.F, upd w.H dx (.own x)⟩ := ⟨List.prefix_refl _, SubH.refl _, fun a y e _ => by
    show upd w.H dx _ a = some y
    rw [upd_ne (ne_of_none e hd)]
    exact e, fun a hm => .inl hm, fun a hm => .inl hm⟩
  have hx1 : (⟨w.r, w.F, upd w.H dx (.own x)⟩ : Wd).H x = none := by
    show upd w.H dx _ x = none
    rw [upd_ne ne.symm]
    exact hx
  obtain ⟨o2, t2⟩ := o1.mut (x := .ins C []) hx1 (u := .ins C dx []) ⟨dx, [], upd_same, .nil⟩
  exact ⟨o2, t1.trans t2⟩
theorem tr_make {k : Nat} {f C : Addr} {fd : FuncData} {ps : List Str} {fn : Fn} {x : Str} (M : Mk X.K C f) (F : FnOk X.prog X.w X.K X.mg X.base (L2.CX X.prog X.w) k f fd ps (SpF X.K ps.length fn)) (hr : Room (k + 1) X.A) (hm : X.mg x = some (.ref C))
    (hb : Binds X.K fd ps []) (tk : Takes X W) (ha : TrA X B W (e :: es) mA) (hg : Gl X x := by rfl) (hdb : (x == ("__debug__" : Str)) = false := by decide) (he : starEach (e :: es) X.env = (false, eval e X.env) :: starEach es X.env := by rfl)
    (hpl : (backTo pos (starEach es X.env)).any (·.1) = false := by rfl) : Tr X B W (.Call (.Name x p) (e :: es) [] pos) (mMake C ps.length fn mA) := by
  refine ⟨fun pins s σ H Q I h => ?_⟩
  obtain ⟨r0, F0, Γ, S, oo, g, q⟩ := h
  have h1 : cA X.K B W mA σ H (fun vs H1 => ∀ x dx, H1 x = none → H1 dx = none → dx ≠ x → SpF X.K ps.length fn (.ref x :: vs) (upd (upd H1 dx (.own x)) x (.ins C dx [])) (fun v H2 => v = .non ∧ Q (.ref x) H2) (WE W σ)) := by
    refine ⟨r0, F0, Γ, S, oo, g, PoE.bindA q fun ds S1 w1 vs _ t1 o1 rp1 q1 x dx hx hd ne => ?_⟩
    obtain ⟨o2, t2⟩ := made_ok (C := C) o1 hx hd ne
    have q1' : PoE X.K W w1 σ ((arg ps.length fn (.ref S1.length :: ds) (S1 ++ [.ins C []])).bind fun z S2 => match z with
      | .non => .ok (.ref S1.length) S2
      | _ => .bad) Q := q1
    have hrx : (w1.r ++ [x])[S1.length]? = some x := by
      rw [List.getElem?_append_right (by rw [o1.len]; exact Nat.le_refl _), o1.len, Nat.sub_self]
      rfl
    have q2 := (PoE.step t2 q1').bindE (Q' := fun v H2 => v = .non ∧ Q (.ref x) H2) fun d S2 w2 v _ t3 o3 rp3 q3 => by
      cases rp3 with
      | non => exact ⟨rfl, q3.now o3 (.ref (pre_get t3.pre hrx))⟩
      | _ => exact q3.elim
    obtain ⟨hl, q4⟩ := arg_ok q2
    exact ⟨_, _, _, .ref S1.length :: ds, o2, .cons (.ref hrx) (rp1.up t2.pre t2.sub), hl, q4.at0⟩
  refine wpAny_Call_Name_kw (ld_glob I hg hm ?_ hdb)
  refine PySem.W.callWith_K (h₀ := X.base) I.ok.mod.kin M.kp (thn (ha.run pos pins s σ H _ I h1) fun us s1 ⟨vs, H1, I1, r, q⟩ => ⟨I1.kIn, ?_⟩) he hpl
  exact run_makeS M F hr hb (passAt tk σ) I1 r q

/-! ## built-ins -/
/-- a call's rule is right for f -/
def SoC (K : PySem.W.Frag) (r : List V → Hp → VK → Prop) (f : Fn) : Prop := ∀ (W : WX) (w : Wd) (σ : L2.St) (S : Sto) (xs : List V) (ds : List D) (Q : VK), w.Ok K S → Reps K w.r w.F xs ds → PoE K W w σ (f ds S) Q → r xs w.H Q
def mBlt (f : Fn) (a : Ad) : Ed := fun Γ S => (a Γ S).bind f
theorem so_C {r : List V → Hp → VK → Prop} {f : Fn} (hr : SoC X.K r f) {σ : L2.St} {H : Hp} {Q : VK} (h : cE X.K B W (mBlt f mA) σ H Q) : tCB r (cA X.K B W mA) σ H Q := by
  obtain ⟨r0, F0, Γ, S, o, g, q⟩ := h
  exact ⟨r0, F0, Γ, S, o, g, PoE.bindA q fun d S1 w1 v _ t1 o1 rp1 q1 => hr W w1 σ S1 v d Q o1 rp1 q1⟩
theorem tr_blt {r : List V → Hp → VK → Prop} {f : Fn} {id : String} {x : Str} (hc : CallR X (.builtin id) r) (hr : SoC X.K r f) (hm : X.mg x = none) (hv : bootBuiltins x = some (.builtin id)) (ha : TrA X B W (e :: es) mA) (hg : Gl X x := by rfl) (hn : x ≠ "__name__" := by decide) (hdb : (x == ("__debug__" : Str)) = false := by decide)
    (he : starEach (e :: es) X.env = (false, eval e X.env) :: starEach es X.env := by rfl) (hpl : (backTo pos (starEach es X.env)).any (·.1) = false := by rfl) : Tr X B W (.Call (.Name x p) (e :: es) [] pos) (mBlt f mA) :=
  imE (pe_callB hc hg hm hv ha hn hdb he hpl) fun σ H Q h => so_C hr h
theorem tr_blty {r : List V → Hp → VK → Prop} {f : Fn} {T : String} {x : Str} (hc : CallR X (.type T) r) (hr : SoC X.K r f) (hm : X.mg x = none) (hv : bootBuiltins x = some (.type T)) (ha : TrA X B W (e :: es) mA) (hg : Gl X x := by rfl) (hn : x ≠ "__name__" := by decide) (hdb : (x == ("__debug__" : Str)) = false := by decide)
    (he : starEach (e :: es) X.env = (false, eval e X.env) :: starEach es X.env := by rfl) (hpl : (backTo pos (starEach es X.env)).any (·.1) = false := by rfl) : Tr X B W (.Call (.Name x p) (e :: es) [] pos) (mBlt f mA) :=
  imE (pe_callTy hc hg hm hv ha hn hdb he hpl) fun σ H Q h => so_C hr h
/-- len -/
def fLen : Fn := fun ds S => match ds with
  | [.str z] => if z.length ≤ big then .ok (.int z.length) S else .bad
  | [d] => match dSq S d with
    | some xs => .ok (.int xs.length) S
    | none => .bad
  | _ => .bad
theorem call_lenA : CallR X (.builtin "len") (fun xs H Q => (∃ z, xs = [.str z] ∧ z.length ≤ sizeLine ∧ Q (.int z.length) H) ∨ (∃ p ys, xs = [.ref p] ∧ (SqL X.K H p ys ∨ SqT X.K H p ys) ∧ Q (.int ys.length) H)) := CallR.or call_len_str call_len_seq
theorem so_len : SoC K (fun xs H Q => (∃ z, xs = [.str z] ∧ z.length ≤ sizeLine ∧ Q (.int z.length) H) ∨ (∃ p ys, xs = [.ref p] ∧ (SqL K H p ys ∨ SqT K H p ys) ∧ Q (.int ys.length) H)) fLen := by
  intro W w σ S xs ds Q o rs h
  cases rs with
  | nil => exact h.elim
  | @cons v vs d ds r rs =>
    cases rs with
    | cons _ _ => cases d <;> exact h.elim
    | nil =>
      have seq : PoE K W w σ (match dSq S d with | some xs => .ok (.int xs.length) S | none => .bad) Q → (∃ p ys, [v] = [V.ref p] ∧ (SqL K w.H p ys ∨ SqT K w.H p ys) ∧ Q (.int ys.length) w.H) := fun h => by
        cases e : dSq S d with
        | none => rw [e] at h; exact h.elim
        | some xs =>
          rw [e] at h
          obtain ⟨p, vs, rfl, hp, hs⟩ := dSq_at o r e
          exact ⟨p, vs, rfl, hp.symm, by rw [hs.len]; exact h.now o (.int _)⟩
      cases r with
      | str z =>
        unfold fLen at h
        dsimp only at h
        split at h
        · rename_i hz
          exact .inl ⟨z, rfl, big_le hz, h.now o (.int _)⟩
        · exact h.elim
      | non => exact .inr (seq h)
      | bl _ => exact .inr (seq h)
      | int _ => exact .inr (seq h)
      | opq _ => exact .inr (seq h)
      | adr _ => exact .inr (seq h)
      | dct _ _ _ _ => exact .inr (seq h)
      | tup h1 h2 => exact .inr (seq h)
      | lst h1 h2 => exact .inr (seq h)
      | fz h1 h2 => exact .inr (seq h)
      | ref h1 => exact .inr (seq h)
theorem tr_len (hm : X.mg "len" = none) (ha : TrA X B W (e :: es) mA) (hg : Gl X "len" := by rfl) (he : starEach (e :: es) X.env = (false, eval e X.env) :: starEach es X.env := by rfl) (hpl : (backTo pos (starEach es X.env)).any (·.1) = false := by rfl) :
    Tr X B W (.Call (.Name "len" p) (e :: es) [] pos) (mBlt fLen mA) := tr_blt call_lenA so_len hm PySem.boot_len ha hg (by decide) (by decide) he hpl
/-- int -/
def fInt : Fn := fun ds S => match ds with
  | [.int i] => .ok (.int i) S
  | [.bl b] => .ok (.int (if b then 1 else 0)) S
  | [.str a] => match PySem.intText? a with
    | some n => if a.length ≤ 640 then .ok (.int n) S else .bad
    | none => .bad
  | _ => .bad
theorem call_intA : CallR X (.type "int") (fun xs H Q => ((∃ i, xs = [.int i] ∧ Q (.int i) H) ∨ ∃ k, xs = [.bl k] ∧ Q (.int (if k then 1 else 0)) H) ∨ (∃ a n, xs = [.str a] ∧ PySem.intText? a = some n ∧ a.length ≤ 640 ∧ Q (.int n) H)) := CallR.or call_int1 call_int_str
theorem so_int : SoC K (fun xs H Q => ((∃ i, xs = [.int i] ∧ Q (.int i) H) ∨ ∃ k, xs = [.bl k] ∧ Q (.int (if k then 1 else 0)) H) ∨ (∃ a n, xs = [.str a] ∧ PySem.intText? a = some n ∧ a.length ≤ 640 ∧ Q (.int n) H)) fInt := by
  intro W w σ S xs ds Q o rs h
  cases rs with
  | nil => exact h.elim
  | @cons v vs d ds r rs =>
    cases rs with
    | cons _ _ => cases d <;> exact h.elim
    | nil =>
      cases r with
      | int i => exact .inl (.inl ⟨i, rfl, h.now o (.int _)⟩)
      | bl b => exact .inl (.inr ⟨b, rfl, h.now o (.int _)⟩)
      | str a =>
        unfold fInt at h
        dsimp only at h
        cases e : PySem.intText? a with
        | none => rw [e] at h; exact h.elim
        | some n =>
          rw [e] at h
          dsimp only at h
          split at h
          · rename_i hz
            exact .inr ⟨a, n, rfl, e, hz, h.now o (.int _)⟩
          · exact h.elim
      | _ => exact h.elim
theorem tr_intc (hm : X.mg "int" = none) (ha : TrA X B W (e :: es) mA) (hg : Gl X "int" := by rfl) (he : starEach (e :: es) X.env = (false, eval e X.env) :: starEach es X.env := by rfl) (hpl : (backTo pos (starEach es X.env)).any (·.1) = false := by rfl) :
    Tr X B W (.Call (.Name "int" p) (e :: es) [] pos) (mBlt fInt mA) := tr_blty call_intA so_int hm (by decide +kernel) ha hg (by decide) (by decide) he hpl
/-- max(i, j), min(i, j) -/
def fMax2 : Fn := fun ds S => match ds with
  | [.int i, .int j] => .ok (.int (if j > i then j else i)) S
  | _ => .bad
def fMin2 : Fn := fun ds S => match ds with
  | [.int i, .int j] => .ok (.int (if j < i then j else i)) S
  | _ => .bad
theorem so_max2 : SoC K (fun xs H Q => ∃ i j, xs = [.int i, .int j] ∧ Q (.int (if j > i then j else i)) H) fMax2 := by
  intro W w σ S xs ds Q o rs h
  unfold fMax2 at h
  split at h
  · rename_i i j
    cases rs with
    | cons r1 rs =>
      cases rs with
      | cons r2 rs =>
        cases rs
        cases r1
        cases r2
        exact ⟨i, j, rfl, h.now o (.int _)⟩
  · exact h.elim
theorem so_min2 : SoC K (fun xs H Q => ∃ i j, xs = [.int i, .int j] ∧ Q (.int (if j < i then j else i)) H) fMin2 := by
  intro W w σ S xs ds Q o rs h
  unfold fMin2 at h
  split at h
  · rename_i i j
    cases rs with
    | cons r1 rs =>
      cases rs with
      | cons r2 rs =>
        cases rs
        cases r1
        cases r2
        exact ⟨i, j, rfl, h.now o (.int _)⟩
  · exact h.elim
theorem tr_max2 (hm : X.mg "max" = none) (ha : TrA X B W (e :: es) mA) (hc : X.calm = true := by rfl) (hg : Gl X "max" := by rfl) (he : starEach (e :: es) X.env = (false, eval e X.env) :: starEach es X.env := by rfl) (hpl : (backTo pos (starEach es X.env)).any (·.1) = false := by rfl) :
    Tr X B W (.Call (.Name "max" p) (e :: es) [] pos) (mBlt fMax2 mA) := tr_blt (call_max2 hc) so_max2 hm (by decide +kernel) ha hg (by decide) (by decide) he hpl
theorem tr_min2 (hm : X.mg "min" = none) (ha : TrA X B W (e :: es) mA) (hc : X.calm = true := by rfl) (hg : Gl X "min" := by rfl) (he : starEach (e :: es) X.env = (false, eval e X.env) :: starEach es X.env := by rfl) (hpl : (backTo pos (starEach es X.env)).any (·.1) = false := by rfl) :
    Tr X B W (.Call (.Name "min" p) (e :: es) [] pos) (mBlt fMin2 mA) := tr_blt (call_min2 hc) so_min2 hm (by decide +kernel) ha hg (by decide) (by decide) he hpl
/-- tuple(x) -/
def fTuple : Fn := fun ds S => match ds with
  | [.tup xs] => .ok (.tup xs) S
  | [d] => match dL S d with
    | some xs => .ok (.tup xs) S
    | none => .bad
  | _ => .bad
theorem so_tuple : SoC K (fun xs H Q => ∃ p ys, xs = [.ref p] ∧ ((SqL K H p ys ∧ ∀ l, H l = none → Q (.ref l) (upd H l (.tup ys))) ∨ (SqT K H p ys ∧ Q (.ref p) H))) fTuple := by
  intro W w σ S xs ds Q o rs h
  cases rs with
  | nil => exact h.elim
  | @cons v vs d ds r rs =>
    cases rs with
    | cons _ _ => cases d <;> exact h.elim
    | nil =>
      have ls : PoE K W w σ (match dL S d with | some xs => .ok (.tup xs) S | none => .bad) Q → (∃ p ys, [v] = [V.ref p] ∧ ((SqL K w.H p ys ∧ ∀ l, w.H l = none → Q (.ref l) (upd w.H l (.tup ys))) ∨ (SqT K w.H p ys ∧ Q (.ref p) w.H))) := fun h => by
        cases e : dL S d with
        | none => rw [e] at h; exact h.elim
        | some xs =>
          rw [e] at h
          obtain ⟨p, vs, rfl, hp, hs⟩ := dL_at o r e
          exact ⟨p, vs, rfl, .inl ⟨hp, fun l hl => mkT_ok o h hs l hl⟩⟩
      cases r with
      | @tup p vs xs h1 h2 => exact ⟨p, vs, rfl, .inr ⟨sqT_sub o.sub h1, h.now o (.tup h1 h2)⟩⟩
      | str z => exact ls h
      | non => exact ls h
      | bl _ => exact ls h
      | int _ => exact ls h
      | opq _ => exact ls h
      | adr _ => exact ls h
      | dct _ _ _ _ => exact ls h
      | lst h1 h2 => exact ls h
      | fz h1 h2 => exact ls h
      | ref h1 => exact ls h
theorem tr_tuplec (hm : X.mg "tuple" = none) (ha : TrA X B W (e :: es) mA) (hg : Gl X "tuple" := by rfl) (he : starEach (e :: es) X.env = (false, eval e X.env) :: starEach es X.env := by rfl) (hpl : (backTo pos (starEach es X.env)).any (·.1) = false := by rfl) :
    Tr X B W (.Call (.Name "tuple" p) (e :: es) [] pos) (mBlt fTuple mA) := tr_blty call_tuple_of so_tuple hm (by decide +kernel) ha hg (by decide) (by decide) he hpl
end
end Fx
end

section
set_option Elab.async false
set_option linter.all false
set_option maxRecDepth 100000
set_option maxHeartbeats 2000000
namespace Fx
open PySem PySem.Spec PyProof.Rows L2

/-! ## a thing at the side: it stands in the heap, nobody knows it yet -/
section
variable {K : PySem.W.Frag} {B : Bs} {W : WX} {w w0 : Wd} {σ : L2.St} {Γ : En} {S : Sto} {p : Addr} {u : HO}
theorem Wd.Ok.side (o : w.Ok K S) (h : w.H p = none ∨ (p ∉ w.r ∧ w.F p = none)) : (⟨w.r, w.F, upd w.H p u⟩ : Wd).Ok K S ∧ (w.H p = none → Step w ⟨w.r, w.F, upd w.H p u⟩) := by
  have hr : p ∉ w.r := h.elim o.notin (·.1)
  have hF : w.F p = none := h.elim o.noF (·.2)
  refine ⟨⟨fun a y e => ?_, o.len, o.nd, fun n y a e1 e2 => ?_, o.out, fun n a e2 => ?_⟩, fun hn => ⟨List.prefix_refl _, SubH.refl _, fun a y e _ => ?_, fun a hm => .inl hm, fun a hm => .inl hm⟩⟩
  · show upd w.H p u a = some y
    rw [upd_ne (ne_of_none e hF)]
    exact o.sub a y e
  · exact (o.obj n y a e1 e2).up (List.prefix_refl _) (SubH.refl _) (upd_ne fun z => hr (by rw [← z]; exact List.mem_of_getElem? e2))
  · show upd w.H p u a ≠ none
    by_cases ha : a = p
    · rw [ha, upd_same]; simp
    · rw [upd_ne ha]
      exact o.there n a e2
  · show upd w.H p u a = some y
    rw [upd_ne (ne_of_none e hn)]
    exact e
theorem Step.sideBack (t : Step w0 w) (h : w0.H p = none) (hr : p ∉ w.r) : Step w0 ⟨w.r, w.F, upd w.H p u⟩ := ⟨t.pre, t.sub, fun a y e ha => by
    show upd w.H p u a = some y
    rw [upd_ne (ne_of_none e h)]
    exact t.frame a y e ha, t.newr, t.newF⟩
/-- it is taken in: it will not change any more -/
theorem Wd.Ok.takeF (o : w.Ok K S) (t : Step w0 w) (h : w0.H p = none) (hr : p ∉ w.r) (hF : w.F p = none) : (⟨w.r, upd w.F p u, upd w.H p u⟩ : Wd).Ok K S ∧ Step w0 ⟨w.r, upd w.F p u, upd w.H p u⟩ ∧ SubH w.F (upd w.F p u) := by
  refine ⟨⟨fun a x e => ?_, o.len, o.nd, fun n x a e1 e2 => ?_, fun n x a e1 e2 ne => ?_, fun n a e2 => ?_⟩, ⟨t.pre, t.sub.trans (sub_new hF), fun a x e ha => ?_, t.newr, fun a hm => ?_⟩, sub_new hF⟩
  · show upd w.H p u a = some x
    have e : upd w.F p u a = some x := e
    by_cases hp : a = p
    · subst hp
      rw [upd_same] at e ⊢
      exact e
    · rw [upd_ne hp] at e ⊢
      exact o.sub a x e
  · exact (o.obj n x a e1 e2).up (List.prefix_refl _) (sub_new hF) (upd_ne fun z => hr (by rw [← z]; exact List.mem_of_getElem? e2))
  · show upd w.F p u a = none
    rw [upd_ne fun z => hr (by rw [← z]; exact List.mem_of_getElem? e2)]
    exact o.out n x a e1 e2 ne
  · show upd w.H p u a ≠ none
    rw [upd_ne fun z => hr (by rw [← z]; exact List.mem_of_getElem? e2)]
    exact o.there n a e2
  · show upd w.H p u a = some x
    rw [upd_ne (ne_of_none e h)]
    exact t.frame a x e ha
  · by_cases hp : a = p
    · exact .inr (.inl (by rw [hp]; exact h))
    · have hm' : upd w.F p u a ≠ none := hm
      exact t.newF a (by rw [upd_ne hp] at hm'; exact hm')
/-- .. it may change -/
theorem Wd.Ok.takeM (o : w.Ok K S) (t : Step w0 w) (h : w0.H p = none) (hr : p ∉ w.r) (hF : w.F p = none) {x : O} (hx : RepO K (w.r ++ [p]) w.F (upd w.H p u) p x) : (⟨w.r ++ [p], w.F, upd w.H p u⟩ : Wd).Ok K (S ++ [x]) ∧ Step w0 ⟨w.r ++ [p], w.F, upd w.H p u⟩ := by
  have hlen : w.r.length = S.length := o.len
  refine ⟨⟨fun a y e => ?_, ?_, ?_, fun n y a e1 e2 => ?_, fun n y a e1 e2 ne => ?_, fun n a e2 => ?_⟩, ⟨t.pre.trans (pre_app _ _), t.sub, fun a y e ha => ?_, fun a hm => ?_, t.newF⟩⟩
  · show upd w.H p u a = some y
    rw [upd_ne (ne_of_none e hF)]
    exact o.sub a y e
  · show (w.r ++ [p]).length = (S ++ [x]).length
    rw [List.length_append, List.length_append, hlen] <;> rfl
  · show (w.r ++ [p]).Nodup
    rw [List.nodup_append]
    refine ⟨o.nd, by simp, fun a ha b hb z => ?_⟩
    simp at hb
    subst hb
    subst z
    exact hr ha
  · have e2 : (w.r ++ [p])[n]? = some a := e2
    by_cases hn : n < S.length
    · rw [List.getElem?_append_left hn] at e1
      rw [List.getElem?_append_left (by omega)] at e2
      exact (o.obj n y a e1 e2).up (pre_app _ _) (SubH.refl _) (upd_ne fun z => hr (by rw [← z]; exact List.mem_of_getElem? e2))
    · have hn2 : n < (S ++ [x]).length := (List.getElem?_eq_some_iff.mp e1).1
      rw [List.length_append] at hn2
      have hn3 : n = S.length := by simp at hn2; omega
      subst hn3
      rw [List.getElem?_append_right (Nat.le_refl _), Nat.sub_self] at e1
      rw [List.getElem?_append_right (by omega), hlen, Nat.sub_self] at e2
      cases e1
      cases e2
      exact hx
  · have e2 : (w.r ++ [p])[n]? = some a := e2
    by_cases hn : n < S.length
    · rw [List.getElem?_append_left hn] at e1
      rw [List.getElem?_append_left (by omega)] at e2
      exact o.out n y a e1 e2 ne
    · have hn2 : n < (S ++ [x]).length := (List.getElem?_eq_some_iff.mp e1).1
      rw [List.length_append] at hn2
      have hn3 : n = S.length := by simp at hn2; omega
      subst hn3
      rw [List.getElem?_append_right (by omega), hlen, Nat.sub_self] at e2
      cases e2
      exact hF
  · have e2 : (w.r ++ [p])[n]? = some a := e2
    show upd w.H p u a ≠ none
    by_cases hp : a = p
    · rw [hp, upd_same]; simp
    · rw [upd_ne hp]
      by_cases hn : n < w.r.length
      · rw [List.getElem?_append_left hn] at e2
        exact o.there n a e2
      · rw [List.getElem?_append_right (by omega)] at e2
        obtain ⟨_, e3⟩ := List.getElem?_eq_some_iff.mp e2
        simp at e3
        exact absurd e3.symm hp
  · show upd w.H p u a = some y
    rw [upd_ne (ne_of_none e h)]
    exact t.frame a y e ha
  · rcases List.mem_append.mp hm with z | z
    · exact t.newr a z
    · simp at z
      exact .inr (by rw [z]; exact h)
/-- what stays of a thing at the side -/
theorem Step.at_side {w w' : Wd} (t : Step w w') {p : Addr} {u : HO} (e : w.H p = some u) (hr : p ∉ w.r) (hF : w.F p = none) : w'.H p = some u ∧ p ∉ w'.r ∧ w'.F p = none := by
  refine ⟨t.frame p u e hr, fun hm => ?_, ?_⟩
  · rcases t.newr p hm with h | h
    · exact hr h
    · rw [h] at e; cases e
  · cases q : w'.F p with
    | none => rfl
    | some z =>
      rcases t.newF p (by rw [q]; simp) with h | h | h
      · exact absurd hF h
      · rw [h] at e; cases e
      · exact absurd h hr
theorem upd_id {H : Hp} {p : Addr} {u : HO} (e : H p = some u) : upd H p u = H := by
  funext a
  by_cases h : a = p
  · rw [h, upd_same, e]
  · rw [upd_ne h]
/-- the list at the side is handed on -/
theorem takeL {f : Bool} {xs : List D} {vs : List V} {Q : VK} (o : w.Ok K S) (t : Step w0 w) (h : w0.H p = none) (hr : p ∉ w.r) (hF : w.F p = none) (e : w.H p = some (.lst vs)) (r : Reps K w.r w.F vs xs) (q : PoE K W w0 σ (mkL f xs S) Q) : Q (.ref p) w.H := by
  have eH := upd_id e
  cases f with
  | true =>
    obtain ⟨o', t', s'⟩ := o.takeF (u := .lst vs) t h hr hF
    rw [eH] at o' t'
    exact q ⟨w.r, upd w.F p (.lst vs), w.H⟩ (.ref p) t' o' (.lst upd_same (r.up (List.prefix_refl _) s'))
  | false =>
    obtain ⟨o', t'⟩ := o.takeM (u := .lst vs) (x := .lst xs) t h hr hF ⟨vs, upd_same, r.up (pre_app _ _) (SubH.refl _)⟩
    rw [eH] at o' t'
    refine q ⟨w.r ++ [p], w.F, w.H⟩ (.ref p) t' o' (.ref ?_)
    rw [List.getElem?_append_right (by rw [o.len]; exact Nat.le_refl _), o.len, Nat.sub_self]
    rfl
end

/-! ## what is walked -/
inductive Sr where
  | seq (d : D) | tup (xs : List D) | rng (lo : Int) (n : Nat)
def itS : Sr → Nat → Sto → Option (Option D)
  | .seq d, i, S => (dL S d).map fun xs => xs[i]?
  | .tup xs, i, _ => some xs[i]?
  | .rng lo n, i, _ => some (if i < n then some (.int (lo + i)) else none)
/-- how many turns at most, and one more -/
def lenS : Sr → Sto → Nat
  | .seq d, S => ((dL S d).getD []).length + 1
  | .tup xs, _ => xs.length + 1
  | .rng _ n, _ => n + 1
def SrOk (K : PySem.W.Frag) (w : Wd) (J : It) : Sr → Prop
  | .seq d => ∃ a, J = Itl K a ∧ Rep K w.r w.F (.ref a) d
  | .tup xs => ∃ a, J = Itt K a ∧ Rep K w.r w.F (.ref a) (.tup xs)
  | .rng lo n => J = Itr lo n
section
variable {K : PySem.W.Frag} {B : Bs} {W : WX} {w w' w0 : Wd} {σ : L2.St} {Γ : En} {S : Sto}
theorem SrOk.step {J : It} {s : Sr} (t : Step w w') (h : SrOk K w J s) : SrOk K w' J s := by
  cases s with
  | seq d => obtain ⟨a, e, r⟩ := h; exact ⟨a, e, r.up t.pre t.sub⟩
  | tup d => obtain ⟨a, e, r⟩ := h; exact ⟨a, e, r.up t.pre t.sub⟩
  | rng lo n => exact h
theorem sr_stop {J : It} {s : Sr} {i : Nat} (o : w.Ok K S) (h : SrOk K w J s) (e : itS s i S = some none) : J.stop i w.H := by
  cases s with
  | seq d =>
    obtain ⟨a, rfl, r⟩ := h
    unfold itS at e
    dsimp only at e
    cases e1 : dL S d with
    | none => rw [e1] at e; cases e
    | some xs =>
      rw [e1] at e
      obtain ⟨a', vs, ea, h1, h2⟩ := dL_at o r e1
      cases ea
      have e : xs[i]? = none := Option.some.inj e
      exact ⟨vs, h1, by rw [h2.len]; exact List.getElem?_eq_none_iff.mp e⟩
  | tup xs =>
    obtain ⟨a, rfl, r⟩ := h
    obtain ⟨a', vs, ea, h1, h2⟩ := tup_at o r
    cases ea
    have e : xs[i]? = none := Option.some.inj e
    exact ⟨vs, h1, by rw [h2.len]; exact List.getElem?_eq_none_iff.mp e⟩
  | rng lo n =>
    have h : J = Itr lo n := h
    subst h
    unfold itS at e
    dsimp only at e
    by_cases hi : i < n
    · rw [if_pos hi] at e; cases e
    · exact Nat.le_of_not_lt hi
theorem sr_go {J : It} {s : Sr} {i : Nat} {d : D} (o : w.Ok K S) (h : SrOk K w J s) (e : itS s i S = some (some d)) : J.go i w.H ∧ ∀ x H', J.yld i w.H x H' → ∃ F', Wd.Ok K ⟨w.r, F', H'⟩ S ∧ Step w ⟨w.r, F', H'⟩ ∧ Rep K w.r F' x d := by
  cases s with
  | seq d0 =>
    obtain ⟨a, rfl, r⟩ := h
    unfold itS at e
    dsimp only at e
    cases e1 : dL S d0 with
    | none => rw [e1] at e; cases e
    | some xs =>
      rw [e1] at e
      obtain ⟨a', vs, ea, h1, h2⟩ := dL_at o r e1
      cases ea
      have e : xs[i]? = some d := Option.some.inj e
      obtain ⟨v, h3, h4⟩ := h2.get e
      refine ⟨⟨vs, v, h1, h3⟩, fun x H' ⟨eH, y⟩ => ?_⟩
      subst eH
      have := (y vs h1).symm.trans h3
      cases this
      exact ⟨w.F, o, Step.refl _, h4⟩
  | tup xs =>
    obtain ⟨a, rfl, r⟩ := h
    obtain ⟨a', vs, ea, h1, h2⟩ := tup_at o r
    cases ea
    have e : xs[i]? = some d := Option.some.inj e
    obtain ⟨v, h3, h4⟩ := h2.get e
    refine ⟨⟨vs, v, h1, h3⟩, fun x H' ⟨eH, y⟩ => ?_⟩
    subst eH
    have := (y vs h1).symm.trans h3
    cases this
    exact ⟨w.F, o, Step.refl _, h4⟩
  | rng lo n =>
    have h : J = Itr lo n := h
    subst h
    unfold itS at e
    dsimp only at e
    by_cases hi : i < n
    · rw [if_pos hi] at e
      cases e
      refine ⟨hi, fun x H' ⟨eH, y⟩ => ?_⟩
      subst eH
      subst y
      exact ⟨w.F, o, Step.refl _, .int _⟩
    · rw [if_neg hi] at e; cases e
abbrev Id' := En → Sto → Res Sr
def PoI (K : PySem.W.Frag) (W : WX) (w : Wd) (σ : L2.St) (r : Res Sr) (Q : It → Hp → Prop) : Prop := match r with
  | .ok s S' => ∀ w' J, Step w w' → w'.Ok K S' → SrOk K w' J s → Q J w'.H
  | .exc c fs S' => ∀ w' dx vs, Step w w' → w'.Ok K S' → ExAt w' dx vs → Fld K w'.r w'.F vs fs → W (.ref c) (some dx) σ w'.H
  | .bad => False
def cI (K : PySem.W.Frag) (B : Bs) (W : WX) (m : Id') : TI := fun σ H Q => ∃ r F Γ S, Wd.Ok K ⟨r, F, H⟩ S ∧ EnOk K B ⟨r, F, H⟩ Γ σ ∧ PoI K W ⟨r, F, H⟩ σ (m Γ S) Q
def TrI (X : Cx) (B : Bs) (W : WX) (tg iter : Expr) (m : Id') : Prop := PI X tg iter (cI X.K B W m)
theorem PoI.step {r : Res Sr} {Q : It → Hp → Prop} (t : Step w w') (h : PoI K W w σ r Q) : PoI K W w' σ r Q := by
  cases r with
  | ok d S => exact fun w2 v t2 o r => h w2 v (t.trans t2) o r
  | exc c fs S => exact fun w2 dx vs t2 o e r => h w2 dx vs (t.trans t2) o e r
  | bad => exact h
theorem PoI.bindE {r : Res D} {f : D → Sto → Res Sr} {Q : It → Hp → Prop} {Q' : VK} (h : PoI K W w σ (r.bind f) Q) (k : ∀ d S w' v, r = .ok d S → Step w w' → w'.Ok K S → Rep K w'.r w'.F v d → PoI K W w' σ (f d S) Q → Q' v w'.H) : PoE K W w σ r Q' := by
  cases r with
  | ok d S => exact fun w2 v t o r => k d S w2 v rfl t o r (PoI.step t h)
  | exc c fs S => exact h
  | bad => exact h
theorem PoI.bindA {r : Res (List D)} {f : List D → Sto → Res Sr} {Q : It → Hp → Prop} {Q' : List V → Hp → Prop} (h : PoI K W w σ (r.bind f) Q) (k : ∀ d S w' v, r = .ok d S → Step w w' → w'.Ok K S → Reps K w'.r w'.F v d → PoI K W w' σ (f d S) Q → Q' v w'.H) : PoA K W w σ r Q' := by
  cases r with
  | ok d S => exact fun w2 v t o r => k d S w2 v rfl t o r (PoI.step t h)
  | exc c fs S => exact h
  | bad => exact h
theorem imI {X : Cx} {tg iter : Expr} {t t' : TI} (h : PI X tg iter t) (k : ∀ σ H Q, t' σ H Q → t σ H Q) : PI X tg iter t' := ⟨fun p s σ H Q I q => h.run p s σ H Q I (k _ _ _ q)⟩
end
section
variable {X : Cx} {B : Bs} {W : WX} {a b e tg : Expr} {es : List Expr} {p pos : Pos} {ma mb : Ed} {mA : Ad}
def iSeq (a : Ed) : Id' := fun Γ S => (a Γ S).bind fun x S1 => match dL S1 x with
  | some _ => .ok (.seq x) S1
  | none => .bad
def iTupD (a : Ed) : Id' := fun Γ S => (a Γ S).bind fun x S1 => match x with
  | .tup xs => .ok (.tup xs) S1
  | _ => .bad
theorem ti_seq (ha : Tr X B W a ma) : TrI X B W tg a (iSeq ma) := by
  refine imI (pi_list ha) fun σ H Q h => ?_
  obtain ⟨r0, F0, Γ, S, o, g, q⟩ := h
  refine ⟨r0, F0, Γ, S, o, g, PoI.bindE q fun d S1 w1 v _ t1 o1 rp1 q1 => ?_⟩
  cases e1 : dL S1 d with
  | none => rw [e1] at q1; exact q1.elim
  | some xs =>
    rw [e1] at q1
    obtain ⟨a, vs, rfl, h1, h2⟩ := dL_at o1 rp1 e1
    exact ⟨a, rfl, ⟨vs, h1⟩, q1 w1 _ (Step.refl _) o1 ⟨a, rfl, rp1⟩⟩
theorem ti_tup (ha : Tr X B W a ma) : TrI X B W tg a (iTupD ma) := by
  refine imI (pi_tup ha) fun σ H Q h => ?_
  obtain ⟨r0, F0, Γ, S, o, g, q⟩ := h
  refine ⟨r0, F0, Γ, S, o, g, PoI.bindE q fun d S1 w1 v _ t1 o1 rp1 q1 => ?_⟩
  cases d with
  | tup xs =>
    obtain ⟨a, vs, rfl, h1, h2⟩ := tup_at o1 rp1
    exact ⟨a, rfl, ⟨vs, h1⟩, q1 w1 _ (Step.refl _) o1 ⟨a, rfl, rp1⟩⟩
  | _ => exact q1.elim
def InB (j : Int) : Prop := -(2 ^ 62) ≤ j ∧ j < 2 ^ 62
instance : ∀ j, Decidable (InB j) := fun j => by unfold InB; infer_instance
def rng1 (ds : List D) (S : Sto) : Res Sr := match ds with
  | [.int j] => if InB j then .ok (.rng 0 j.toNat) S else .bad
  | _ => .bad
def rng2 (ds : List D) (S : Sto) : Res Sr := match ds with
  | [.int i, .int j] => if InB i ∧ InB j then .ok (.rng i (j - i).toNat) S else .bad
  | _ => .bad
def iRg (f : List D → Sto → Res Sr) (a : Ad) : Id' := fun Γ S => (a Γ S).bind f
theorem ti_rng1 (hm : X.mg "range" = none) (ha : TrA X B W [a] mA) (hg : Gl X "range" := by rfl) (hs : starEach [a] X.env = [(false, eval a X.env)] := by rfl) : TrI X B W tg (.Call (.Name "range" p) [a] [] pos) (iRg rng1 mA) := by
  refine imI (pi_range1 hg hm ha hs) fun σ H Q h => ?_
  obtain ⟨r0, F0, Γ, S, o, g, q⟩ := h
  refine ⟨r0, F0, Γ, S, o, g, PoI.bindA q fun d S1 w1 v hd t1 o1 rp1 q1 => ?_⟩
  unfold rng1 at q1
  split at q1
  · rename_i j
    split at q1
    · rename_i hb
      cases rp1 with
      | cons r rs =>
        cases rs
        cases r
        exact ⟨j, rfl, hb.1, hb.2, q1 w1 _ (Step.refl _) o1 rfl⟩
    · exact q1.elim
  · exact q1.elim
theorem ti_rng2 (hm : X.mg "range" = none) (ha : TrA X B W [a, b] mA) (hg : Gl X "range" := by rfl) (hs : starEach [a, b] X.env = [(false, eval a X.env), (false, eval b X.env)] := by rfl) (hs2 : starEach [b] X.env = [(false, eval b X.env)] := by rfl) : TrI X B W tg (.Call (.Name "range" p) [a, b] [] pos) (iRg rng2 mA) := by
  refine imI (pi_range2 hg hm ha hs hs2) fun σ H Q h => ?_
  obtain ⟨r0, F0, Γ, S, o, g, q⟩ := h
  refine ⟨r0, F0, Γ, S, o, g, PoI.bindA q fun d S1 w1 v hd t1 o1 rp1 q1 => ?_⟩
  unfold rng2 at q1
  split at q1
  · rename_i i j
    split at q1
    · rename_i hb
      cases rp1 with
      | cons r rs =>
        cases rs with
        | cons r2 rs =>
          cases rs
          cases r
          cases r2
          exact ⟨i, j, rfl, ⟨hb.1.1, hb.1.2, hb.2.1, hb.2.2⟩, q1 w1 _ (Step.refl _) o1 rfl⟩
    · exact q1.elim
  · exact q1.elim
end

/-! ## targets -/
abbrev Td := D → En → Option En
def cG (K : PySem.W.Frag) (B : Bs) (m : Td) : TG := fun v σ H Q => ∃ r F Γ S d Γ', Wd.Ok K ⟨r, F, H⟩ S ∧ EnOk K B ⟨r, F, H⟩ Γ σ ∧ Rep K r F v d ∧ m d Γ = some Γ' ∧ ∀ σ', EnOk K B ⟨r, F, H⟩ Γ' σ' → Q σ' H
def TrG (X : Cx) (B : Bs) (tg : Expr) (m : Td) : Prop := PG X tg (cG X.K B m)
theorem imG {X : Cx} {tg : Expr} {t t' : TG} (h : PG X tg t) (k : ∀ v σ H Q, t' v σ H Q → t v σ H Q) : PG X tg t' := ⟨fun p s σ H v u Q I r q => h.run p s σ H v u Q I r (k _ _ _ _ q)⟩
def gN (i : Nat) : Td := fun d Γ => some (Γ.set i (some d))
def gNs : List Nat → List D → En → Option En
  | [], [], Γ => some Γ
  | i :: is, d :: ds, Γ => gNs is ds (Γ.set i (some d))
  | _, _, _ => none
def gT (is : List Nat) : Td := fun d Γ => match d with
  | .tup xs => gNs is xs Γ
  | _ => none
section
variable {X : Cx} {B : Bs} {tg : Expr}
theorem tg_name (i : Nat) {x : Str} {pos : Pos} (nd : X.N.Nodup) (kp : Keeps B i) (hi : X.N[i]? = some x := by rfl) (hx : Loc X.env.scope x := by first | exact Or.inl rfl | exact Or.inr rfl) (hf : X.fn x = true ∨ X.env.scope.names.lookup x = some .local := by first | exact .inl rfl | exact .inr rfl) : TrG X B (.Name x pos) (gN i) := by
  refine imG (pg_name (i := i) nd hi hx hf) fun v σ H Q h => ?_
  obtain ⟨r, F, Γ, S, d, Γ', o, g, rp, e, q⟩ := h
  cases e
  exact q _ (g.set kp rp)
def gSeq : List Nat → TGs
  | [] => gNil
  | i :: is => gCons (gName i) (gSeq is)
theorem gSeq_ok {w : Wd} {Q : L2.St → Hp → Prop} {Γ' : En} : ∀ {is : List Nat} {vs : List V} {ds : List D} {σ : L2.St} {Γ : En}, (∀ i, Keeps B i) → EnOk X.K B w Γ σ → Reps X.K w.r w.F vs ds → gNs is ds Γ = some Γ' → (∀ σ', EnOk X.K B w Γ' σ' → Q σ' w.H) → gSeq is vs σ w.H Q
  | [], [], [], σ, Γ, _, g, _, e, q => ⟨rfl, q σ (by cases e; exact g)⟩
  | [], _ :: _, _ :: _, _, _, _, _, _, e, _ => by cases e
  | i :: is, [], [], _, _, _, _, _, e, _ => by cases e
  | i :: is, v :: vs, d :: ds, σ, Γ, kp, g, .cons h hs, e, q => ⟨v, vs, rfl, gSeq_ok kp (g.set (kp i) h) hs e q⟩
theorem gNs_len {Γ' : En} : ∀ {is : List Nat} {ds : List D} {Γ : En}, gNs is ds Γ = some Γ' → ds.length = is.length
  | [], [], _, _ => rfl
  | [], _ :: _, _, e => by cases e
  | _ :: _, [], _, e => by cases e
  | _ :: is, _ :: ds, _, e => congrArg (· + 1) (gNs_len (is := is) (ds := ds) e)
theorem tg_tup {es : List Expr} {k : Nat} {pos : Pos} (is : List Nat) (kp : ∀ i, Keeps B i) (hst : PG X (.Tuple es k pos) (gTup X.K is.length (gSeq is))) : TrG X B (.Tuple es k pos) (gT is) := by
  refine imG hst fun v σ H Q h => ?_
  obtain ⟨r, F, Γ, S, d, Γ', o, g, rp, e, q⟩ := h
  cases d with
  | tup xs =>
    have e : gNs is xs Γ = some Γ' := e
    obtain ⟨a, vs, rfl, h1, h2⟩ := tup_at o rp
    exact ⟨a, vs, rfl, h1, by rw [h2.len]; exact gNs_len e, gSeq_ok (w := ⟨r, F, H⟩) kp g h2 e q⟩
  | _ => cases e
end

/-! ## list comprehensions -/
def wipeE (Γ : En) : List Nat → En
  | [] => Γ
  | v :: vs => (wipeE Γ vs).set v none
theorem wipe_ok {K : PySem.W.Frag} {w : Wd} {Γ : En} {σ : L2.St} (kp : ∀ i, Keeps B i) (g : EnOk K B w Γ σ) : ∀ vs : List Nat, EnOk K B w (wipeE Γ vs) (wipe σ vs)
  | [] => g
  | v :: vs => (wipe_ok kp g vs).forget (kp v)
abbrev W0 : WX := fun _ _ _ _ => False
def lcL (s : Sr) (tg : Td) (Γ : En) (cnd : Bd) (elt : Ed) : Nat → Nat → List D → Sto → Res (List D)
  | 0, _, _, _ => .bad
  | n + 1, i, acc, S => match itS s i S with
    | none => .bad
    | some none => .ok acc S
    | some (some d) => match tg d Γ with
      | none => .bad
      | some Γ1 => match cnd Γ1 S with
        | .ok true S1 => match elt Γ1 S1 with
          | .ok y S2 => if acc.length < big then lcL s tg Γ cnd elt n (i + 1) (acc ++ [y]) S2 else .bad
          | _ => .bad
        | .ok false S1 => lcL s tg Γ cnd elt n (i + 1) acc S1
        | _ => .bad
def mLc (f : Bool) (vs : List Nat) (src : Id') (tg : Td) (cnd : Bd) (elt : Ed) : Ed := fun Γ S => (src Γ S).bind fun s S1 => (lcL s tg (wipeE Γ vs) cnd elt (lenS s S1) 0 [] S1).bind fun xs S2 => mkL f xs S2
def bYes : Bd := fun _ S => .ok true S
/-- the tests of a comprehension -/
def TrT (X : Cx) (B : Bs) (ifs : List Expr) (m : Bd) : Prop := PTs X ifs (cB X.K B W0 m)
theorem tt_nil {X : Cx} : TrT X B [] bYes := ⟨fun p s σ H Q I ⟨r, F, Γ, S, o, g, q⟩ => pts_nil.run p s σ H Q I (q _ (Step.refl _) o)⟩
theorem tt_one {X : Cx} {c : Expr} {m : Bd} (h : TrB X B W0 c m) : TrT X B [c] m := pts_one h
theorem so_lc {K : PySem.W.Frag} {B : Bs} {W : WX} {f : Bool} {vs : List Nat} {σ : L2.St} {g : TG} {tg : Td} {cnd : Bd} {elt : Ed} {s : Sr} {J : It} {w0 : Wd} {Γ : En} {S : Sto} {Q : VK}
    (hg : ∀ {w : Wd} {S : Sto} {v : V} {d : D} {Γ' : En} {R : L2.St → Hp → Prop}, w.Ok K S → Rep K w.r w.F v d → EnOk K B w (wipeE Γ vs) (wipe σ vs) → tg d (wipeE Γ vs) = some Γ' → (∀ σ', EnOk K B w Γ' σ' → wipe σ' vs = wipe σ vs → R σ' w.H) → g v (wipe σ vs) w.H R)
    (kp : ∀ i, Keeps B i) (o0 : w0.Ok K S) (g0 : EnOk K B w0 Γ σ) (hs : SrOk K w0 J s) (q : PoE K W w0 σ ((lcL s tg (wipeE Γ vs) cnd elt (lenS s S) 0 [] S).bind fun xs S2 => mkL f xs S2) Q) (D0 : Addr) (hD : w0.H D0 = none) :
    ∃ Wt : Nat → Nat → Hp → Prop, (∃ m, Wt 0 m (upd w0.H D0 (.lst []))) ∧ ∀ i m H, Wt i m H →
      (J.stop i H ∧ Q (.ref D0) H) ∨ (J.go i H ∧ ∃ Nx : Hp → Prop, (∀ H', Nx H' → ∃ m', m' < m ∧ Wt (i + 1) m' H') ∧ ∀ x H', J.yld i H x H' → g x (wipe σ vs) H' fun σ2 H2 => wipe σ2 vs = wipe σ vs ∧ cB K B W0 cnd σ2 H2 fun b H3 =>
        if b = true then cE K B W0 elt σ2 H3 fun y H4 => ∃ acc, H4 D0 = some (.lst acc) ∧ acc.length < sizeLine ∧ Nx (upd H4 D0 (.lst (acc ++ [y]))) else Nx H3) := by
  let Wt : Nat → Nat → Hp → Prop := fun i m H => ∃ r F S acc vacc, Wd.Ok K ⟨r, F, H⟩ S ∧ Step w0 ⟨r, F, H⟩ ∧ H D0 = some (.lst vacc) ∧ Reps K r F vacc acc ∧ F D0 = none ∧ D0 ∉ r ∧ PoE K W w0 σ ((lcL s tg (wipeE Γ vs) cnd elt m i acc S).bind fun xs S2 => mkL f xs S2) Q
  refine ⟨Wt, ⟨lenS s S, ?_⟩, fun i m H hw => ?_⟩
  · obtain ⟨o1, t1⟩ := o0.side (u := .lst []) (.inl hD)
    exact ⟨w0.r, w0.F, S, [], [], o1, t1 hD, upd_same, .nil, o0.noF hD, o0.notin hD, q⟩
  · obtain ⟨r, F, S, acc, vacc, o, t, eD, ra, fD, nD, q⟩ := hw
    cases m with
    | zero => exact q.elim
    | succ m =>
      unfold lcL at q
      have hs' := hs.step t
      cases e1 : itS s i S with
      | none => rw [e1] at q; exact q.elim
      | some od =>
        rw [e1] at q
        cases od with
        | none =>
          exact .inl ⟨sr_stop o hs' e1, takeL (w := ⟨r, F, H⟩) o t hD nD fD eD ra q⟩
        | some d =>
          dsimp only at q
          obtain ⟨go, yl⟩ := sr_go o hs' e1
          cases e2 : tg d (wipeE Γ vs) with
          | none => rw [e2] at q; exact q.elim
          | some Γ1 =>
            rw [e2] at q
            dsimp only at q
            refine .inr ⟨go, Wt (i + 1) m, fun H' h => ⟨m, Nat.lt_succ_self _, h⟩, fun x H' hy => ?_⟩
            obtain ⟨F1, o1, t1, rx⟩ := yl x H' hy
            obtain ⟨eD1, nD1, fD1⟩ := t1.at_side (p := D0) eD nD fD
            refine hg (w := ⟨r, F1, H'⟩) o1 rx (wipe_ok kp ((g0.step t).step t1) vs) e2 fun σ2 g2 ew => ⟨ew, ?_⟩
            refine ⟨r, F1, Γ1, S, o1, g2, ?_⟩
            cases e3 : cnd Γ1 S with
            | bad => rw [e3] at q; exact q.elim
            | exc _ _ _ => rw [e3] at q; exact q.elim
            | ok b S1 =>
              intro w2 t2 o2
              obtain ⟨eD2, nD2, fD2⟩ := t2.at_side (p := D0) eD1 nD1 fD1
              cases b with
              | false =>
                rw [if_neg Bool.false_ne_true]
                rw [e3] at q
                exact ⟨w2.r, w2.F, S1, acc, vacc, o2, (t.trans t1).trans t2, eD2, ra.up (t1.trans t2).pre (t1.trans t2).sub, fD2, nD2, q⟩
              | true =>
                rw [if_pos rfl]
                rw [e3] at q
                dsimp only at q
                refine ⟨w2.r, w2.F, Γ1, S1, o2, g2.step t2, ?_⟩
                cases e4 : elt Γ1 S1 with
                | bad => rw [e4] at q; exact q.elim
                | exc _ _ _ => rw [e4] at q; exact q.elim
                | ok y S2 =>
                  intro w3 v t3 o3 r3
                  obtain ⟨eD3, nD3, fD3⟩ := t3.at_side (p := D0) eD2 nD2 fD2
                  rw [e4] at q
                  dsimp only at q
                  split at q
                  · rename_i hz
                    have tt := (t1.trans t2).trans t3
                    have ra3 := ra.up tt.pre tt.sub
                    refine ⟨vacc, eD3, big_lt (by rw [ra.len]; exact hz), ?_⟩
                    obtain ⟨o4, _⟩ := o3.side (u := .lst (vacc ++ [v])) (.inr ⟨nD3, fD3⟩)
                    exact ⟨w3.r, w3.F, S2, acc ++ [y], vacc ++ [v], o4, (t.trans tt).sideBack hD nD3, upd_same, ra3.app (.cons r3 .nil), fD3, nD3, q⟩
                  · exact q.elim
section
variable {X : Cx} {B : Bs} {W : WX} {elt tg iter : Expr} {ifs : List Expr} {scope : Scope} {own : List (Str × Nat)} {pos spos : Pos} {src : Id'} {cnd : Bd} {me : Ed}
theorem PoI.ofBind {w : Wd} {σ : L2.St} {r : Res Sr} {f : Sr → Sto → Res D} {Q : VK} {Q' : It → Hp → Prop} {K : PySem.W.Frag} (h : PoE K W w σ (r.bind f) Q) (k : ∀ s S w' J, r = .ok s S → Step w w' → w'.Ok K S → SrOk K w' J s → PoE K W w' σ (f s S) Q → Q' J w'.H) : PoI K W w σ r Q' := by
  cases r with
  | ok d S => exact fun w2 J t o hs => k d S w2 J rfl t o hs (PoE.step t h)
  | exc c fs S => exact h
  | bad => exact h
theorem set_wipe {σ : L2.St} : ∀ {vs : List Nat} {i : Nat} {v : V}, i ∈ vs → wipe ((wipe σ vs).set i (some v)) vs = wipe σ vs := by
  have key : ∀ (vs : List Nat) (τ ρ : L2.St), τ.length = ρ.length → (∀ j, j ∉ vs → τ[j]? = ρ[j]?) → wipe τ vs = wipe ρ vs := by
    intro vs
    induction vs with
    | nil => intro τ ρ _ h; exact List.ext_getElem? fun j => h j (by simp)
    | cons a vs ih =>
      intro τ ρ hl h
      have hh : ∀ (τ : L2.St) (j : Nat), (wipe τ (a :: vs))[j]? = if j = a then (if a < τ.length then some none else none) else (wipe τ vs)[j]? := fun τ j => by
        show ((wipe τ vs).set a none)[j]? = _
        by_cases hj : j = a
        · subst hj
          rw [if_pos rfl]
          by_cases hlt : j < τ.length
          · rw [if_pos hlt, List.getElem?_set_self (by rw [wipe_length]; exact hlt)]
          · rw [if_neg hlt, List.getElem?_eq_none (by rw [List.length_set, wipe_length]; omega)]
        · rw [if_neg hj, List.getElem?_set_ne (Ne.symm hj)]
      refine List.ext_getElem? fun j => ?_
      rw [hh, hh, hl]
      by_cases hj : j = a
      · rw [if_pos hj, if_pos hj]
      · rw [if_neg hj, if_neg hj]
        have w1 : ∀ (us : List Nat) (τ : L2.St) (j : Nat), (wipe τ us)[j]? = if j ∈ us then (if j < τ.length then some none else none) else τ[j]? := by
          intro us
          induction us with
          | nil => intro τ j; simp [wipe]
          | cons b us ihu =>
            intro τ j
            show ((wipe τ us).set b none)[j]? = _
            by_cases hb : j = b
            · subst hb
              rw [if_pos (List.mem_cons_self ..)]
              by_cases hlt : j < τ.length
              · rw [if_pos hlt, List.getElem?_set_self (by rw [wipe_length]; exact hlt)]
              · rw [if_neg hlt, List.getElem?_eq_none (by rw [List.length_set, wipe_length]; omega)]
            · rw [List.getElem?_set_ne (Ne.symm hb), ihu]
              by_cases hm : j ∈ us
              · rw [if_pos hm, if_pos (List.mem_cons_of_mem _ hm)]
              · rw [if_neg hm, if_neg fun z => (List.mem_cons.mp z).elim hb hm]
        rw [w1, w1, hl]
        by_cases hm : j ∈ vs
        · rw [if_pos hm, if_pos hm]
        · rw [if_neg hm, if_neg hm]
          exact h j fun z => (List.mem_cons.mp z).elim hj hm
  have w1 : ∀ (us : List Nat) (τ : L2.St) (j : Nat), j ∉ us → (wipe τ us)[j]? = τ[j]? := by
    intro us
    induction us with
    | nil => intro τ j _; rfl
    | cons b us ihu =>
      intro τ j hj
      show ((wipe τ us).set b none)[j]? = _
      rw [List.getElem?_set_ne fun z => hj (by rw [z]; exact List.mem_cons_self ..)]
      exact ihu τ j fun z => hj (List.mem_cons_of_mem _ z)
  intro vs i v hi
  refine key vs _ _ (by rw [List.length_set, wipe_length]) fun j hj => ?_
  rw [List.getElem?_set_ne fun z => hj (by rw [← z]; exact hi)]
  exact w1 vs σ j hj
theorem gSeq_wipe {w : Wd} {K : PySem.W.Frag} {vs : List Nat} {σ : L2.St} {Q : L2.St → Hp → Prop} {Γ' : En} : ∀ {is : List Nat} {us : List V} {ds : List D} {σ1 : L2.St} {Γ : En}, (∀ i, Keeps B i) → (∀ i ∈ is, i ∈ vs) → wipe σ1 vs = wipe σ vs → EnOk K B w Γ σ1 → Reps K w.r w.F us ds → gNs is ds Γ = some Γ' →
    (∀ σ', EnOk K B w Γ' σ' → wipe σ' vs = wipe σ vs → Q σ' w.H) → gSeq is us σ1 w.H Q
  | [], [], [], σ1, Γ, _, _, ew, g, _, e, q => ⟨rfl, q σ1 (by cases e; exact g) ew⟩
  | [], _ :: _, _ :: _, _, _, _, _, _, _, _, e, _ => by cases e
  | i :: is, [], [], _, _, _, _, _, _, _, e, _ => by cases e
  | i :: is, v :: us, d :: ds, σ1, Γ, kp, hi, ew, g, .cons h hs, e, q => ⟨v, us, rfl, gSeq_wipe kp (fun j hj => hi j (List.mem_cons_of_mem _ hj)) (by
      have hm := hi i (List.mem_cons_self ..)
      have w1 : ∀ (us : List Nat) (τ : L2.St) (i : Nat) (v : V), i ∈ us → wipe (τ.set i (some v)) us = wipe τ us := by
        intro us
        induction us with
        | nil => intro τ i v h; cases h
        | cons b us ihu =>
          intro τ i v h
          show (wipe (τ.set i (some v)) us).set b none = (wipe τ us).set b none
          by_cases hb : i ∈ us
          · rw [ihu τ i v hb]
          · have hib : i = b := (List.mem_cons.mp h).resolve_right hb
            subst hib
            have w2 : ∀ (us : List Nat) (τ : L2.St), i ∉ us → wipe (τ.set i (some v)) us = (wipe τ us).set i (some v) := by
              intro us
              induction us with
              | nil => intro τ _; rfl
              | cons c us ihc =>
                intro τ hc
                show (wipe (τ.set i (some v)) us).set c none = ((wipe τ us).set c none).set i (some v)
                rw [ihc τ fun z => hc (List.mem_cons_of_mem _ z), List.set_comm]
                exact fun z => hc (by rw [z]; exact List.mem_cons_self ..)
            rw [w2 us τ hb, List.set_set]
      rw [w1 vs σ1 i v hm]
      exact ew) (g.set (kp i) h) hs e q⟩
/-- [elt for x in .. if ..], the target the names at is -/
theorem so_lcE {f : Bool} {g : TG} {tgd : Td} (kp : ∀ i, Keeps B i)
    (hg : ∀ {Γ : En} {σ : L2.St} {w : Wd} {S : Sto} {v : V} {d : D} {Γ' : En} {R : L2.St → Hp → Prop}, w.Ok X.K S → Rep X.K w.r w.F v d → EnOk X.K B w (wipeE Γ (own.map (·.2))) (wipe σ (own.map (·.2))) → tgd d (wipeE Γ (own.map (·.2))) = some Γ' → (∀ σ', EnOk X.K B w Γ' σ' → wipe σ' (own.map (·.2)) = wipe σ (own.map (·.2)) → R σ' w.H) → g v (wipe σ (own.map (·.2))) w.H R)
    {σ : L2.St} {H : Hp} {Q : VK} (h : cE X.K B W (mLc f (own.map (·.2)) src tgd cnd me) σ H Q) : tLc (cI X.K B W src) g (cB X.K B W0 cnd) (cE X.K B W0 me) (own.map (·.2)) σ H Q := by
  obtain ⟨r0, F0, Γ, S, o, gg, q⟩ := h
  refine ⟨r0, F0, Γ, S, o, gg, PoI.ofBind q fun s S1 w1 J _ t1 o1 hs q1 D0 hD => ?_⟩
  exact so_lc (hg := fun a b c d e => hg a b c d e) kp o1 (gg.step t1) hs q1 D0 hD
theorem tr_lc (f : Bool) (i : Nat) (own : List (Str × Nat)) (kp : ∀ i, Keeps B i) (hc : X.calm = true) (hN : X.N.Nodup) (hi : TrI X B W tg iter src) (ok : BlkOk X.N X.env.scope scope own) (hm : i ∈ own.map (·.2))
    (hg : ∀ (s : Shared) (H : Hp) (C : Addr) (cl : List (Str × Addr)) (fp : List Addr), PG (X.blk s H scope (compEnvC scope cl C X.env) fp) tg (gName i))
    (ht : ∀ (s : Shared) (H : Hp) (C : Addr) (cl : List (Str × Addr)) (fp : List Addr), TrT (X.blk s H scope (compEnvC scope cl C X.env) fp) B ifs cnd)
    (he : ∀ (s : Shared) (H : Hp) (C : Addr) (cl : List (Str × Addr)) (fp : List Addr), Tr (X.blk s H scope (compEnvC scope cl C X.env) fp) B W0 elt me) (hs : ∀ x, foldedSetIterable iter X.env x = pure x := by intro _; rfl) :
    Tr X B W (.ListComp elt [⟨tg, iter, ifs, 0⟩] scope pos) (mLc f (own.map (·.2)) src (gN i) cnd me) := by
  refine imE (pe_lc (tt := cB X.K B W0 cnd) (te := cE X.K B W0 me) hc hN hi ok hg ht he hs) fun σ H Q h => so_lcE kp (fun {Γ σ w S v d Γ' R} o r g e q => ?_) h
  cases e
  exact q _ (g.set (kp i) r) (set_wipe hm)
theorem tr_lcT (f : Bool) (is : List Nat) (own : List (Str × Nat)) (kp : ∀ i, Keeps B i) (hc : X.calm = true) (hN : X.N.Nodup) (hi : TrI X B W tg iter src) (ok : BlkOk X.N X.env.scope scope own) (hm : ∀ i ∈ is, i ∈ own.map (·.2))
    (hg : ∀ (s : Shared) (H : Hp) (C : Addr) (cl : List (Str × Addr)) (fp : List Addr), PG (X.blk s H scope (compEnvC scope cl C X.env) fp) tg (gTup X.K is.length (gSeq is)))
    (ht : ∀ (s : Shared) (H : Hp) (C : Addr) (cl : List (Str × Addr)) (fp : List Addr), TrT (X.blk s H scope (compEnvC scope cl C X.env) fp) B ifs cnd)
    (he : ∀ (s : Shared) (H : Hp) (C : Addr) (cl : List (Str × Addr)) (fp : List Addr), Tr (X.blk s H scope (compEnvC scope cl C X.env) fp) B W0 elt me) (hs : ∀ x, foldedSetIterable iter X.env x = pure x := by intro _; rfl) :
    Tr X B W (.ListComp elt [⟨tg, iter, ifs, 0⟩] scope pos) (mLc f (own.map (·.2)) src (gT is) cnd me) := by
  refine imE (pe_lc (tt := cB X.K B W0 cnd) (te := cE X.K B W0 me) hc hN hi ok hg ht he hs) fun σ H Q h => so_lcE kp (fun {Γ σ w S v d Γ' R} o r g e q => ?_) h
  cases d with
  | tup xs =>
    have e : gNs is xs _ = some Γ' := e
    obtain ⟨a, vs, rfl, h1, h2⟩ := tup_at o r
    refine ⟨a, vs, rfl, h1, by rw [h2.len]; exact gNs_len e, gSeq_wipe kp hm ?_ g h2 e q⟩
    have w1 : ∀ (us : List Nat) (τ : L2.St), wipe (wipe τ us) us = wipe τ us := by
      intro us
      induction us with
      | nil => intro τ; rfl
      | cons b us ihu =>
        intro τ
        have hcom : ∀ (us : List Nat) (τ : L2.St) (b : Nat), wipe (τ.set b none) us = (wipe τ us).set b none := by
          intro us
          induction us with
          | nil => intro τ b; rfl
          | cons c us ihc =>
            intro τ b
            show (wipe (τ.set b none) us).set c none = ((wipe τ us).set c none).set b none
            rw [ihc τ b]
            by_cases hbc : b = c
            · rw [hbc]
            · rw [List.set_comm _ _ hbc]
        show (wipe ((wipe τ us).set b none) us).set b none = (wipe τ us).set b none
        rw [hcom, ihu, List.set_set]
    exact w1 _ _
  | _ => cases e
end
end Fx
end

section
set_option Elab.async false
set_option linter.all false
set_option maxRecDepth 100000
set_option maxHeartbeats 2000000
namespace Fx
open PySem PySem.Spec PyProof.Rows L2

/-! ## statements -/
def Res.toS {α : Type} (r : Res α) (Γ : En) (k : α → Sto → SR) : SR := match r with
  | .ok a S => k a S
  | .exc c fs S => .ex c fs Γ S
  | .bad => .bad
@[simp] theorem Res.toS_ok {α : Type} (a : α) (S : Sto) (Γ : En) (k : α → Sto → SR) : (Res.ok a S).toS Γ k = k a S := rfl
@[simp] theorem Res.toS_exc {α : Type} (c : Addr) (fs : List (Str × D)) (S : Sto) (Γ : En) (k : α → Sto → SR) : (Res.exc c fs S : Res α).toS Γ k = .ex c fs Γ S := rfl
@[simp] theorem Res.toS_bad {α : Type} (Γ : En) (k : α → Sto → SR) : (Res.bad : Res α).toS Γ k = .bad := rfl
section
variable {K : PySem.W.Frag} {B : Bs} {W : WX} {w w' : Wd} {σ : L2.St} {Γ : En} {S : Sto} {E : Ends}
theorem PoS.bindE {r : Res D} {k : D → Sto → SR} {Q : VK} (g : EnOk K B w Γ σ) (h : PoS K B W w (r.toS Γ k) E) (f : ∀ d S w' v, r = .ok d S → Step w w' → w'.Ok K S → Rep K w'.r w'.F v d → PoS K B W w' (k d S) E → Q v w'.H) : PoE K W w σ r Q := by
  cases r with
  | ok d S => exact fun w2 v t o r => f d S w2 v rfl t o r (PoS.step t h)
  | exc c fs S => exact fun w2 dx vs t o e r => h w2 σ dx vs t o (g.step t) e r
  | bad => exact h
theorem PoS.bindB {r : Res Bool} {k : Bool → Sto → SR} {Q : Bool → Hp → Prop} (g : EnOk K B w Γ σ) (h : PoS K B W w (r.toS Γ k) E) (f : ∀ d S w', r = .ok d S → Step w w' → w'.Ok K S → PoS K B W w' (k d S) E → Q d w'.H) : PoB K W w σ r Q := by
  cases r with
  | ok d S => exact fun w2 t o => f d S w2 rfl t o (PoS.step t h)
  | exc c fs S => exact fun w2 dx vs t o e r => h w2 σ dx vs t o (g.step t) e r
  | bad => exact h
theorem PoS.bindA {r : Res (List D)} {k : List D → Sto → SR} {Q : List V → Hp → Prop} (g : EnOk K B w Γ σ) (h : PoS K B W w (r.toS Γ k) E) (f : ∀ d S w' v, r = .ok d S → Step w w' → w'.Ok K S → Reps K w'.r w'.F v d → PoS K B W w' (k d S) E → Q v w'.H) : PoA K W w σ r Q := by
  cases r with
  | ok d S => exact fun w2 v t o r => f d S w2 v rfl t o r (PoS.step t h)
  | exc c fs S => exact fun w2 dx vs t o e r => h w2 σ dx vs t o (g.step t) e r
  | bad => exact h
theorem PoS.bindI {r : Res Sr} {k : Sr → Sto → SR} {Q : It → Hp → Prop} (g : EnOk K B w Γ σ) (h : PoS K B W w (r.toS Γ k) E) (f : ∀ s S w' J, r = .ok s S → Step w w' → w'.Ok K S → SrOk K w' J s → PoS K B W w' (k s S) E → Q J w'.H) : PoI K W w σ r Q := by
  cases r with
  | ok d S => exact fun w2 J t o hs => f d S w2 J rfl t o hs (PoS.step t h)
  | exc c fs S => exact fun w2 dx vs t o e r => h w2 σ dx vs t o (g.step t) e r
  | bad => exact h
theorem PoS.nxt {Γ : En} {S : Sto} (h : PoS K B W w (.nx Γ S) E) (o : w.Ok K S) (g : EnOk K B w Γ σ) : E.nx σ w.H := h w σ (Step.refl _) o g
end
section
variable {X : Cx} {B : Bs} {W : WX} {a b c e o i tg : Expr} {es : List Expr} {st : Stmt} {sts ts us : List Stmt} {p pos pos' : Pos} {ma mb me : Ed} {mt : Bd} {mA : Ad} {m m1 m2 : Sd}
def sPass : Sd := fun Γ S => .nx Γ S
def sBreak : Sd := fun Γ S => .bk Γ S
def sCont : Sd := fun Γ S => .ct Γ S
def sSeq (a b : Sd) : Sd := fun Γ S => match a Γ S with
  | .nx Γ' S' => b Γ' S'
  | r => r
def sDrop (a : Ed) : Sd := fun Γ S => (a Γ S).toS Γ fun _ S' => .nx Γ S'
def sRet (a : Ed) : Sd := fun Γ S => (a Γ S).toS Γ fun d S' => .rt d S'
def sRetN : Sd := fun _ S => .rt .non S
def sIf (t : Bd) (a b : Sd) : Sd := fun Γ S => (t Γ S).toS Γ fun x S' => if x = true then a Γ S' else b Γ S'
def sAsg (t : Td) (a : Ed) : Sd := fun Γ S => (a Γ S).toS Γ fun d S' => match t d Γ with
  | some Γ' => .nx Γ' S'
  | none => .bad
theorem ts_pass : TrS X B W (.Pass pos) sPass := imS ps_pass fun E σ H ⟨r, F, Γ, S, o, g, q⟩ => q.nxt o g
theorem ts_break : TrS X B W (.Break pos) sBreak := imS ps_break fun E σ H ⟨r, F, Γ, S, o, g, q⟩ => q _ σ (Step.refl _) o g
theorem ts_cont : TrS X B W (.Continue pos) sCont := imS ps_continue fun E σ H ⟨r, F, Γ, S, o, g, q⟩ => q _ σ (Step.refl _) o g
theorem ts_doc {x j pos'} : TrS X B W (.Expr (.Constant (.str x) j pos) pos') sPass := imS ps_doc fun E σ H ⟨r, F, Γ, S, o, g, q⟩ => q.nxt o g
theorem tss_nil : TrSs X B W [] sPass := imSs pss_nil fun E σ H ⟨r, F, Γ, S, o, g, q⟩ => q.nxt o g
theorem tss_one (h : TrS X B W st m) : TrSs X B W [st] m := pss_one h
theorem tss_cons (h1 : TrS X B W st m1) (h2 : TrSs X B W sts m2) : TrSs X B W (st :: sts) (sSeq m1 m2) := by
  refine imSs (pss_cons h1 h2) fun E σ H h => ?_
  obtain ⟨r, F, Γ, S, o, g, q⟩ := h
  refine ⟨r, F, Γ, S, o, g, ?_⟩
  unfold sSeq at q
  cases e : m1 Γ S with
  | nx Γ' S' =>
    rw [e] at q
    exact fun w' σ' t o' g' => ⟨w'.r, w'.F, Γ', S', o', g', PoS.step t q⟩
  | rt d S' => rw [e] at q; exact q
  | bk Γ' S' => rw [e] at q; exact q
  | ct Γ' S' => rw [e] at q; exact q
  | ex c fs Γ' S' => rw [e] at q; exact q
  | bad => rw [e] at q; exact q
theorem ts_drop (h : Tr X B W e me) (hs : swapsWith e none pos.line X.env = pure false := by rfl) : TrS X B W (.Expr e pos) (sDrop me) := by
  refine imS (ps_expr h hs) fun E σ H h => ?_
  obtain ⟨r, F, Γ, S, o, g, q⟩ := h
  exact ⟨r, F, Γ, S, o, g, PoS.bindE g q fun d S1 w1 v _ t1 o1 rp1 q1 => q1.nxt o1 (g.step t1)⟩
theorem ts_ret (h : Tr X B W e me) : TrS X B W (.Return (some e) pos) (sRet me) := by
  refine imS (ps_ret h) fun E σ H h => ?_
  obtain ⟨r, F, Γ, S, o, g, q⟩ := h
  exact ⟨r, F, Γ, S, o, g, PoS.bindE g q fun d S1 w1 v _ t1 o1 rp1 q1 => q1 _ v (Step.refl _) o1 rp1⟩
theorem ts_retN : TrS X B W (.Return none pos) sRetN := imS ps_retN fun E σ H ⟨r, F, Γ, S, o, g, q⟩ => q _ .non (Step.refl _) o .non
theorem ts_if (ht : TrB X B W a mt) (h1 : TrSs X B W ts m1) (h2 : TrSs X B W us m2) : TrS X B W (.If a ts us pos) (sIf mt m1 m2) := by
  refine imS (ps_if ht h1 h2) fun E σ H h => ?_
  obtain ⟨r, F, Γ, S, o, g, q⟩ := h
  refine ⟨r, F, Γ, S, o, g, PoS.bindB g q fun d S1 w1 _ t1 o1 q1 => ?_⟩
  cases d with
  | true =>
    rw [if_pos rfl] at q1 ⊢
    exact ⟨w1.r, w1.F, Γ, S1, o1, g.step t1, q1⟩
  | false =>
    rw [if_neg Bool.false_ne_true] at q1 ⊢
    exact ⟨w1.r, w1.F, Γ, S1, o1, g.step t1, q1⟩
theorem ts_asg {td : Td} (h : Tr X B W e me) (hg : TrG X B tg td) (hps : ∀ te g, PE X e te → PG X tg g → PS X (.Assign [tg] e pos) (tAsg te g) := by exact fun _ _ h g => ps_asg h g) : TrS X B W (.Assign [tg] e pos) (sAsg td me) := by
  refine imS (hps _ _ h hg) fun E σ H h => ?_
  obtain ⟨r, F, Γ, S, o, g, q⟩ := h
  refine ⟨r, F, Γ, S, o, g, PoS.bindE g q fun d S1 w1 v _ t1 o1 rp1 q1 => ?_⟩
  cases e1 : td d Γ with
  | none => rw [e1] at q1; exact q1.elim
  | some Γ' =>
    rw [e1] at q1
    exact ⟨w1.r, w1.F, Γ, S1, d, Γ', o1, g.step t1, rp1, e1, fun σ' g' => q1.nxt o1 g'⟩
theorem ts_set (i : Nat) {x : Str} (nd : X.N.Nodup) (kp : Keeps B i) (h : Tr X B W e me) (hi : X.N[i]? = some x := by rfl) (hx : Loc X.env.scope x := by first | exact Or.inl rfl | exact Or.inr rfl) (hf : X.fn x = true ∨ X.env.scope.names.lookup x = some .local := by first | exact .inl rfl | exact .inr rfl)
    (hps : ∀ te g, PE X e te → PG X (.Name x pos') g → PS X (.Assign [.Name x pos'] e pos) (tAsg te g) := by exact fun _ _ h g => ps_asg h g) : TrS X B W (.Assign [.Name x pos'] e pos) (sAsg (gN i) me) := ts_asg h (tg_name i nd kp hi hx hf) hps
/-- x = [..] on one line -/
theorem ts_setLc (f : Bool) (i j : Nat) {y : Str} {py spos : Pos} {elt iter : Expr} {ifs : List Expr} {scope : Scope} (own : List (Str × Nat)) {src : Id'} {cnd : Bd} (kp : ∀ i, Keeps B i) (hc : X.calm = true) (hN : X.N.Nodup) (hy : X.N[i]? = some y) (hyl : X.env.scope.names.lookup y = some .local)
    (hsw : swapsWith (.ListComp elt [⟨tg, iter, ifs, 0⟩] scope pos) (some (.Name y py)) spos.line X.env = pure true) (hi : TrI X B W tg iter src) (ok : BlkOk X.N X.env.scope scope own) (hm : j ∈ own.map (·.2))
    (hg : ∀ (s : Shared) (H : Hp) (C : Addr) (cl : List (Str × Addr)) (fp : List Addr), PG (X.blk s H scope (compEnvC scope cl C X.env) fp) tg (gName j))
    (ht : ∀ (s : Shared) (H : Hp) (C : Addr) (cl : List (Str × Addr)) (fp : List Addr), TrT (X.blk s H scope (compEnvC scope cl C X.env) fp) B ifs cnd)
    (he : ∀ (s : Shared) (H : Hp) (C : Addr) (cl : List (Str × Addr)) (fp : List Addr), Tr (X.blk s H scope (compEnvC scope cl C X.env) fp) B W0 elt me) (hs : ∀ x, foldedSetIterable iter X.env x = pure x := by intro _; rfl) :
    TrS X B W (.Assign [.Name y py] (.ListComp elt [⟨tg, iter, ifs, 0⟩] scope pos) spos) (sAsg (gN i) (mLc f (own.map (·.2)) src (gN j) cnd me)) := by
  refine imS (ps_setLc (tt := cB X.K B W0 cnd) (te := cE X.K B W0 me) hc hN hy hyl hsw hi ok hg ht he hs) fun E σ H h => ?_
  obtain ⟨r, F, Γ, S, o, g, q⟩ := h
  have h2 : cE X.K B W (mLc f (own.map (·.2)) src (gN j) cnd me) σ H (fun x H1 => gName i x σ H1 E.nx) :=
    ⟨r, F, Γ, S, o, g, PoS.bindE g q fun d S1 w1 v _ t1 o1 rp1 q1 => q1.nxt o1 ((g.step t1).set (kp i) rp1)⟩
  refine so_lcE kp (fun {Γ σ w S v d Γ' R} o r g e q => ?_) h2
  cases e
  exact q _ (g.set (kp j) r) (set_wipe hm)
/-- a, b = e1, e2 -/
def sPar (i j : Nat) (a : Ad) : Sd := fun Γ S => (a Γ S).toS Γ fun ds S' => match ds with
  | [d, e] => .nx ((Γ.set i (some d)).set j (some e)) S'
  | _ => .bad
theorem ts_par (i j : Nat) {x y : Str} {px py pt : Pos} {kt k2 : Nat} {pt2 : Pos} (kp : ∀ i, Keeps B i) (h : TrA X B W [a, b] mA)
    (hp : ∀ ta, PA X [a, b] ta → PS X (.Assign [.Tuple [.Name x px, .Name y py] kt pt] (.Tuple [a, b] k2 pt2) pos) (tPar i j ta)) : TrS X B W (.Assign [.Tuple [.Name x px, .Name y py] kt pt] (.Tuple [a, b] k2 pt2) pos) (sPar i j mA) := by
  refine imS (hp _ h) fun E σ H h => ?_
  obtain ⟨r, F, Γ, S, o, g, q⟩ := h
  refine ⟨r, F, Γ, S, o, g, PoS.bindA g q fun d S1 w1 v _ t1 o1 rp1 q1 => ?_⟩
  cases rp1 with
  | nil => exact q1.elim
  | cons r1 rs =>
    cases rs with
    | nil => exact q1.elim
    | cons r2 rs =>
      cases rs with
      | cons _ _ => exact q1.elim
      | nil => exact ⟨_, _, rfl, q1.nxt o1 (((g.step t1).set (kp i) r1).set (kp j) r2)⟩
/-- o.f = e -/
def sFldA (G : Addr → Bool) (f : Str) (o e : Ed) : Sd := fun Γ S => (e Γ S).toS Γ fun y S1 => (o Γ S1).toS Γ fun x S2 => match x with
  | .ref n => match S2[n]? with
    | some (.ins C fs) => if G C = true ∧ fs.length < 1000 then .nx Γ (S2.set n (.ins C (putD f y fs))) else .bad
    | _ => .bad
  | _ => .bad
theorem ts_fld {G : Addr → Bool} {f : Str} (hG : Plain X.K G f) (ho : Tr X B W o ma) (he : Tr X B W e me) (hs : swapsWith e (some (.Attribute o f pos')) pos.line X.env = pure false := by rfl) : TrS X B W (.Assign [.Attribute o f pos'] e pos) (sFldA G f ma me) := by
  refine imS (ps_fld ho he hs) fun E σ H h => ?_
  obtain ⟨r, F, Γ, S, o, g, q⟩ := h
  refine ⟨r, F, Γ, S, o, g, PoS.bindE g q fun y S1 w1 v _ t1 o1 rp1 q1 => ?_⟩
  refine ⟨w1.r, w1.F, Γ, S1, o1, g.step t1, PoS.bindE (g.step t1) q1 fun x S2 w2 u _ t2 o2 rp2 q2 => ?_⟩
  cases rp2 with
  | @ref p n hp =>
    dsimp only at q2
    cases e1 : S2[n]? with
    | none => rw [e1] at q2; exact q2.elim
    | some ob =>
      rw [e1] at q2
      cases ob with
      | ins C fs =>
        dsimp only at q2
        split at q2
        · rename_i hC
          obtain ⟨dx, vs, h1, h2⟩ := o2.obj n _ p e1 hp
          obtain ⟨c1, c2⟩ := hG C hC.1
          refine ⟨p, C, dx, vs, rfl, h1, c1, c2, by rw [h2.len]; exact hC.2, ?_⟩
          obtain ⟨o3, t3⟩ := o2.put (u := .ins C dx (putF f v vs)) (x := .ins C (putD f y fs)) e1 (fun z => nomatch z) hp ⟨dx, _, upd_same, h2.put (rp1.up t2.pre t2.sub)⟩
          exact q2 _ σ t3 o3 (((g.step t1).step t2).step t3)
        · exact q2.elim
      | _ => exact q2.elim
  | _ => exact q2.elim
/-- o.f += e, ints -/
def sFldG (G : Addr → Bool) (f : Str) (h : Int → Int → Int) (o e : Ed) : Sd := fun Γ S => (o Γ S).toS Γ fun x S1 => match x with
  | .ref n => match S1[n]? with
    | some (.ins C fs) => if G C = true then match fs.lookup f with
        | some (.int i) => (e Γ S1).toS Γ fun z S3 => match z with
          | .int j => match S3[n]? with
            | some (.ins C' fs') => if C' = C ∧ fs'.length < 1000 then .nx Γ (S3.set n (.ins C (putD f (.int (h i j)) fs'))) else .bad
            | _ => .bad
          | _ => .bad
        | _ => .bad
      else .bad
    | _ => .bad
  | _ => .bad
theorem ts_faug {op : Operator} {hh : Int → Int → Int} {G : Addr → Bool} {f : Str} {tpos : Pos} (hop : InOp X op (fun x y H Q => ∃ i j, x = .int i ∧ y = .int j ∧ Q (.int (hh i j)) H)) (hG : Plain X.K G f) (ho : Tr X B W o ma) (he : Tr X B W e me) : TrS X B W (.AugAssign (.Attribute o f tpos) op e pos) (sFldG G f hh ma me) := by
  refine imS (ps_fldaug ho he hop) fun E σ H h => ?_
  obtain ⟨r, F, Γ, S, o, g, q⟩ := h
  refine ⟨r, F, Γ, S, o, g, PoS.bindE g q fun x S1 w1 v _ t1 o1 rp1 q1 => ?_⟩
  cases rp1 with
  | @ref p n hp =>
    dsimp only at q1
    cases e1 : S1[n]? with
    | none => rw [e1] at q1; exact q1.elim
    | some ob =>
      rw [e1] at q1
      cases ob with
      | ins C fs =>
        dsimp only at q1
        split at q1
        · rename_i hC
          cases e2 : fs.lookup f with
          | none => rw [e2] at q1; exact q1.elim
          | some d =>
            rw [e2] at q1
            cases d with
            | int i =>
              dsimp only at q1
              obtain ⟨dx, vs, h1, h2⟩ := o1.obj n _ p e1 hp
              obtain ⟨v1, h3, h4⟩ := h2.look e2
              obtain ⟨c1, c2⟩ := hG C hC
              refine ⟨p, C, dx, vs, v1, rfl, h1, c1, c2, h3, ?_⟩
              cases h4
              refine ⟨w1.r, w1.F, Γ, S1, o1, g.step t1, PoS.bindE (g.step t1) q1 fun z S3 w3 u _ t3 o3 rp3 q3 => ?_⟩
              have hp3 := pre_get t3.pre hp
              cases rp3 with
              | int j =>
                dsimp only at q3
                cases e5 : S3[n]? with
                | none => rw [e5] at q3; exact q3.elim
                | some ob3 =>
                  rw [e5] at q3
                  cases ob3 with
                  | ins C3 fs3 =>
                    dsimp only at q3
                    split at q3
                    · rename_i hC3
                      obtain ⟨dx3, vs3, h13, h23⟩ := o3.obj n _ p e5 hp3
                      obtain ⟨e6, e7⟩ := hC3
                      subst e6
                      refine ⟨i, j, rfl, rfl, dx3, vs3, h13, by rw [h23.len]; exact e7, ?_⟩
                      obtain ⟨o4, t4⟩ := o3.put (u := .ins C3 dx3 (putF f (.int (hh i j)) vs3)) (x := .ins C3 (putD f (.int (hh i j)) fs3)) e5 (fun z => nomatch z) hp3 ⟨dx3, _, upd_same, h23.put (.int _)⟩
                      exact q3 _ σ t4 o4 (((g.step t1).step t3).step t4)
                    · exact q3.elim
                  | _ => exact q3.elim
              | _ => exact q3.elim
            | _ => exact q1.elim
        · exact q1.elim
      | _ => exact q1.elim
  | _ => exact q1.elim
/-- x += e, ints -/
def sAug (i : Nat) (h : Int → Int → Int) (e : Ed) : Sd := fun Γ S => match Γ[i]? with
  | some (some (.int a)) => (e Γ S).toS Γ fun z S1 => match z with
    | .int b => .nx (Γ.set i (some (.int (h a b)))) S1
    | _ => .bad
  | _ => .bad
theorem ts_aug (i : Nat) {x : Str} {op : Operator} {hh : Int → Int → Int} (nd : X.N.Nodup) (kp : Keeps B i) (he : Tr X B W e me) (ho : PIp X op (ipI hh)) (hi : X.N[i]? = some x := by rfl) (hx : Loc X.env.scope x := by first | exact Or.inl rfl | exact Or.inr rfl)
    (hps : ∀ te, PE X e te → PS X (.AugAssign (.Name x pos') op e pos) (tAug i te (ipI hh))) : TrS X B W (.AugAssign (.Name x pos') op e pos) (sAug i hh me) := by
  refine imS (hps _ he) fun E σ H h => ?_
  obtain ⟨r, F, Γ, S, o, g, q⟩ := h
  unfold sAug at q
  split at q
  · rename_i a ea
    obtain ⟨v, h1, h2⟩ := g.2.2 i _ ea
    cases h2
    refine ⟨_, h1, r, F, Γ, S, o, g, PoS.bindE g q fun z S1 w1 v _ t1 o1 rp1 q1 => ?_⟩
    cases rp1 with
    | int b => exact ⟨a, b, rfl, rfl, q1.nxt o1 ((g.step t1).set kp (.int _))⟩
    | _ => exact q1.elim
  · exact q.elim
/-- xs[i] = e, a list that may change -/
def sSub (e a b : Ed) : Sd := fun Γ S => (e Γ S).toS Γ fun v S1 => (a Γ S1).toS Γ fun x S2 => (b Γ S2).toS Γ fun y S3 => match x, y with
  | .ref n, .int k => match S3[n]? with
    | some (.lst xs) => match ixN xs.length k with
      | some j => .nx Γ (S3.set n (.lst (xs.set j v)))
      | none => .bad
    | _ => .bad
  | _, _ => .bad
theorem ts_sub (he : Tr X B W e me) (ha : Tr X B W a ma) (hb : Tr X B W b mb)
    (hps : ∀ te to ti, PE X e te → PE X a to → PE X b ti → PS X (.Assign [.Subscript a b pos'] e pos) (tAsg te (gSub to ti rSetL))) : TrS X B W (.Assign [.Subscript a b pos'] e pos) (sSub me ma mb) := by
  refine imS (hps _ _ _ he ha hb) fun E σ H h => ?_
  obtain ⟨r, F, Γ, S, o, g, q⟩ := h
  refine ⟨r, F, Γ, S, o, g, PoS.bindE g q fun v S1 w1 vv _ t1 o1 rp1 q1 => ?_⟩
  refine ⟨w1.r, w1.F, Γ, S1, o1, g.step t1, PoS.bindE (g.step t1) q1 fun x S2 w2 u _ t2 o2 rp2 q2 => ?_⟩
  refine ⟨w2.r, w2.F, Γ, S2, o2, (g.step t1).step t2, PoS.bindE ((g.step t1).step t2) q2 fun y S3 w3 u3 _ t3 o3 rp3 q3 => ?_⟩
  cases rp2 with
  | @ref p n hp =>
    cases rp3 with
    | int k =>
      dsimp only at q3
      cases e1 : S3[n]? with
      | none => rw [e1] at q3; exact q3.elim
      | some ob =>
        rw [e1] at q3
        cases ob with
        | lst xs =>
          dsimp only at q3
          cases e2 : ixN xs.length k with
          | none => rw [e2] at q3; exact q3.elim
          | some j =>
            rw [e2] at q3
            have hp3 := pre_get t3.pre hp
            obtain ⟨vs, h1, h2⟩ := o3.obj n _ p e1 hp3
            refine ⟨p, vs, k, j, rfl, rfl, h1, by rw [h2.len]; exact e2, ?_⟩
            obtain ⟨o4, t4⟩ := o3.put (u := .lst (vs.set j vv)) (x := .lst (xs.set j v)) e1 (fun z => nomatch z) hp3 ⟨_, upd_same, h2.set j (rp1.up (t2.trans t3).pre (t2.trans t3).sub)⟩
            exact q3 _ σ t4 o4 ((((g.step t1).step t2).step t3).step t4)
        | _ => exact q3.elim
    | _ => exact q3.elim
  | _ => cases rp3 <;> exact q3.elim

/-! ## loops -/
def whL (c : Bd) (b : Sd) : Nat → En → Sto → SR
  | 0, _, _ => .bad
  | n + 1, Γ, S => (c Γ S).toS Γ fun t S1 => if t = true then match b Γ S1 with
      | .nx Γ2 S2 => whL c b n Γ2 S2
      | .ct Γ2 S2 => whL c b n Γ2 S2
      | .bk Γ2 S2 => .nx Γ2 S2
      | r => r
    else .nx Γ S1
def sWhile (n : Nat) (c : Bd) (b : Sd) : Sd := whL c b n
theorem ts_while (n : Nat) (hp : PassesOwn (model X.prog X.w) X.A X.env X.xe) (hc : TrB X B W a mt) (hb : TrSs X B W sts m) : TrS X B W (.While a sts [] pos) (sWhile n mt m) := by
  refine imS (ps_while hp hc hb) fun E σ H h => ?_
  refine ⟨fun n σ H => ∃ r F Γ S, Wd.Ok X.K ⟨r, F, H⟩ S ∧ EnOk X.K B ⟨r, F, H⟩ Γ σ ∧ PoS X.K B W ⟨r, F, H⟩ (whL mt m n Γ S) E, ⟨n, h⟩, fun n σ H h => ?_⟩
  obtain ⟨r, F, Γ, S, o, g, q⟩ := h
  cases n with
  | zero => exact q.elim
  | succ n =>
    refine ⟨r, F, Γ, S, o, g, PoS.bindB g q fun t S1 w1 _ t1 o1 q1 => ?_⟩
    cases t with
    | false =>
      rw [if_neg Bool.false_ne_true] at q1 ⊢
      exact q1.nxt o1 (g.step t1)
    | true =>
      rw [if_pos rfl] at q1 ⊢
      refine ⟨_, fun σ' H' h' => ⟨n, Nat.lt_succ_self _, h'⟩, w1.r, w1.F, Γ, S1, o1, g.step t1, ?_⟩
      cases e : m Γ S1 with
      | nx Γ2 S2 => rw [e] at q1; exact fun w2 σ2 t2 o2 g2 => ⟨w2.r, w2.F, Γ2, S2, o2, g2, PoS.step t2 q1⟩
      | ct Γ2 S2 => rw [e] at q1; exact fun w2 σ2 t2 o2 g2 => ⟨w2.r, w2.F, Γ2, S2, o2, g2, PoS.step t2 q1⟩
      | bk Γ2 S2 => rw [e] at q1; exact q1
      | rt d S2 => rw [e] at q1; exact q1
      | ex c fs Γ2 S2 => rw [e] at q1; exact q1
      | bad => rw [e] at q1; exact q1
def lpF (s : Sr) (tg : Td) (b : Sd) : Nat → Nat → En → Sto → SR
  | 0, _, _, _ => .bad
  | n + 1, i, Γ, S => match itS s i S with
    | none => .bad
    | some none => .nx Γ S
    | some (some d) => match tg d Γ with
      | none => .bad
      | some Γ1 => match b Γ1 S with
        | .nx Γ2 S2 => lpF s tg b n (i + 1) Γ2 S2
        | .ct Γ2 S2 => lpF s tg b n (i + 1) Γ2 S2
        | .bk Γ2 S2 => .nx Γ2 S2
        | r => r
def sFor (src : Id') (tg : Td) (b : Sd) : Sd := fun Γ S => (src Γ S).toS Γ fun s S1 => lpF s tg b (lenS s S1) 0 Γ S1
theorem ts_for {iter : Expr} {src : Id'} {td : Td} (hp : PassesOwn (model X.prog X.w) X.A X.env X.xe) (hi : TrI X B W tg iter src) (hg : TrG X B tg td) (hb : TrSs X B W sts m) (hc : X.calm = true := by rfl)
    (hs : ∀ x, foldedSetIterable iter X.env x = pure x := by intro _; rfl) : TrS X B W (.For tg iter sts [] pos) (sFor src td m) := by
  refine imS (ps_for hp hc hi hg hb hs) fun E σ H h => ?_
  obtain ⟨r, F, Γ, S, o, g, q⟩ := h
  refine ⟨r, F, Γ, S, o, g, PoS.bindI g q fun s S1 w1 J _ t1 o1 hs q1 => ?_⟩
  refine ⟨fun i n σ H => ∃ r F Γ S, Wd.Ok X.K ⟨r, F, H⟩ S ∧ EnOk X.K B ⟨r, F, H⟩ Γ σ ∧ SrOk X.K ⟨r, F, H⟩ J s ∧ PoS X.K B W ⟨r, F, H⟩ (lpF s td m n i Γ S) E, ⟨lenS s S1, w1.r, w1.F, Γ, S1, o1, g.step t1, hs, q1⟩, fun i n σ H h => ?_⟩
  obtain ⟨r, F, Γ, S, o, g, hs, q⟩ := h
  cases n with
  | zero => exact q.elim
  | succ n =>
    unfold lpF at q
    cases e1 : itS s i S with
    | none => rw [e1] at q; exact q.elim
    | some od =>
      rw [e1] at q
      cases od with
      | none => exact .inl ⟨sr_stop o hs e1, q.nxt o g⟩
      | some d =>
        dsimp only at q
        obtain ⟨go, yl⟩ := sr_go o hs e1
        cases e2 : td d Γ with
        | none => rw [e2] at q; exact q.elim
        | some Γ1 =>
          rw [e2] at q
          dsimp only at q
          refine .inr ⟨go, _, fun σ' H' h' => ⟨n, Nat.lt_succ_self _, h'⟩, fun x H' hy => ?_⟩
          obtain ⟨F1, o1, t1, rx⟩ := yl x H' hy
          refine ⟨r, F1, Γ, S, d, Γ1, o1, g.step t1, rx, e2, fun σ' g' => ⟨r, F1, Γ1, S, o1, g', ?_⟩⟩
          have hs1 := hs.step t1
          cases e : m Γ1 S with
          | nx Γ2 S2 => rw [e] at q; exact fun w2 σ2 t2 o2 g2 => ⟨w2.r, w2.F, Γ2, S2, o2, g2, hs1.step t2, PoS.step (t1.trans t2) q⟩
          | ct Γ2 S2 => rw [e] at q; exact fun w2 σ2 t2 o2 g2 => ⟨w2.r, w2.F, Γ2, S2, o2, g2, hs1.step t2, PoS.step (t1.trans t2) q⟩
          | bk Γ2 S2 => rw [e] at q; exact PoS.step t1 q
          | rt d S2 => rw [e] at q; exact PoS.step t1 q
          | ex c fs Γ2 S2 => rw [e] at q; exact PoS.step t1 q
          | bad => rw [e] at q; exact q

/-! ## a def by its body -/
def enter (N : Nat) (ds : List D) : En := ds.map some ++ List.replicate (N - ds.length) none
def runF (N : Nat) (b : Sd) : Fn := fun ds S => match b (enter N ds) S with
  | .nx _ S' => .ok .non S'
  | .rt d S' => .ok d S'
  | .ex c fs _ S' => .exc c fs S'
  | _ => .bad
theorem reps_map {K : PySem.W.Frag} {r : List Addr} {F : Hp} : ∀ {vs : List V} {ds : List D} {i : Nat} {d : D}, Reps K r F vs ds → (ds.map some)[i]? = some (some d) → ∃ v, (vs.map some)[i]? = some (some v) ∧ Rep K r F v d
  | _, _, _, _, .nil, e => by simp at e
  | _, _, 0, d, .cons h _, e => by simp at e; subst e; exact ⟨_, rfl, h⟩
  | _, _, i + 1, d, .cons _ h, e => by
    obtain ⟨v, h1, h2⟩ := reps_map (i := i) h (by simpa using e)
    exact ⟨v, by simpa using h1, h2⟩
theorem keeps_true {w : Wd} (i : Nat) : Keeps ⟨w, fun _ => True⟩ i := fun _ _ _ => trivial
theorem enter_ok {K : PySem.W.Frag} {w : Wd} {N : List Str} {vs : List V} {ds : List D} (h : Reps K w.r w.F vs ds) : EnOk K ⟨w, fun _ => True⟩ w (enter N.length ds) (L2.start N vs) := by
  refine ⟨⟨Step.refl _, trivial⟩, ?_, fun i d e => ?_⟩
  · unfold enter L2.start
    rw [List.length_append, List.length_append, List.length_map, List.length_map, List.length_replicate, List.length_replicate, h.len]
  · unfold enter at e
    unfold L2.start
    by_cases hi : i < ds.length
    · rw [List.getElem?_append_left (by rw [List.length_map]; exact hi)] at e
      rw [List.getElem?_append_left (by rw [List.length_map, h.len]; exact hi)]
      exact reps_map h e
    · rw [List.getElem?_append_right (by rw [List.length_map]; omega), List.getElem?_replicate] at e
      split at e <;> cases e
section
variable {P : Program} {wd : World} {K : PySem.W.Frag} {mg : Str → Option Value} {base : Heap}
theorem spf_len {n : Nat} {f : Fn} {vs : List V} {H : Hp} {Q : VK} {E : XK} (h : SpF K n f vs H Q E) : vs.length = n := by
  obtain ⟨r, F, S, ds, _, h1, h2, _⟩ := h
  rw [h1.len, h2]
theorem fn_ok {x qual : Str} {st : Stmt} {f : Addr} {fd : FuncData} {N ps : List Str} {k : Nat} {b : Sd} (F : Fun K x qual st f fd) (S : FnScope N ps (defScope st))
    (h : ∀ (cdv : Value) (A : Around) (outer : List Env) (s : Shared) (H : Hp) (E : XK) (B : Bs), (∀ i, Keeps B i) → Room k (A.deeper (envOfC qual (defScope st) s.heap.objs.size f cdv)) →
      Takes (cxOf (L2.CX P wd) P wd K mg base N qual (defScope st) f cdv A outer s H E) (WE0 E) → TrSs (cxOf (L2.CX P wd) P wd K mg base N qual (defScope st) f cdv A outer s H E) B (WE0 E) (defBody st) b) :
    FnOk P wd K mg base (L2.CX P wd) (k + 1) f fd ps (SpF K ps.length (runF N.length b)) := by
  refine F.okX S (fun vs H Q E h => spf_len h) fun cdv A outer s H vs Q E hr hsp => ?_
  obtain ⟨r, F0, S0, ds, o, rs, hl, q⟩ := hsp
  refine ⟨_, h cdv A outer s H E ⟨⟨r, F0, H⟩, fun _ => True⟩ keeps_true hr (takes_of rfl rfl rfl rfl), r, F0, enter N.length ds, S0, o, enter_ok rs, ?_⟩
  unfold runF at q
  cases e : b (enter N.length ds) S0 with
  | nx Γ' S' => rw [e] at q; exact fun w' σ' t o' g' => q w' .non t o' .non
  | rt d S' => rw [e] at q; exact q
  | bk Γ' S' => rw [e] at q; exact q.elim
  | ct Γ' S' => rw [e] at q; exact q.elim
  | ex c fs Γ' S' => rw [e] at q; exact fun w' σ' dx vs t o' g' e' r' => q w' dx vs t o' e' r'
  | bad => rw [e] at q; exact q.elim
/-- nothing is asked of it -/
theorem fn_bad {f : Addr} {fd : FuncData} {ps : List Str} : FnOk P wd K mg base (L2.CX P wd) 0 f fd ps (SpF K ps.length fun _ _ => .bad) :=
  ⟨fun vs H Q E h => spf_len h, fun A outer s H args us vs Q E _ _ _ _ h => by
    obtain ⟨_, _, _, _, _, _, _, q⟩ := h
    exact q.elim⟩
end
end
end Fx
end

section
set_option Elab.async false
set_option linter.all false
set_option maxRecDepth 100000
set_option maxHeartbeats 2000000
namespace Fx
open PySem PySem.Spec PyProof.Rows L2

/-! ## try .. except X as n .. except Y as m .. (names or none) -/
abbrev HdT := Value × Option Nat × (Addr → Value → Option Addr → TS)
def endAt (i : Option Nat) (E : Ends) : Ends := match i with
  | none => E
  | some i => { nx := fun σ' H' => E.nx (σ'.set i none) H', rt := E.rt, bk := fun σ' H' => E.bk (σ'.set i none) H', ct := fun σ' H' => E.ct (σ'.set i none) H' }
def slotAt (i : Option Nat) (a : Addr) (σ : L2.St) : L2.St := match i with
  | none => σ
  | some i => σ.set i (some (.ref a))
def wManyA (K : PySem.W.Frag) (Wout : WX) (E : Ends) : List HdT → WX
  | [] => Wout
  | (c, i, ts) :: r => fun cls d σ H => ∃ b, PySem.W.exmOne K cls c = some b ∧ (b = true → ∀ a, H a = none → ts a cls d (endAt i E) (slotAt i a σ) H) ∧ (b = false → wManyA K Wout E r cls d σ H)
inductive HdsA (X : Cx) : List ExceptHandler → List HdT → Prop
  | nil : HdsA X [] []
  | cons {x : Str} {c : Value} {ts : Addr → Value → Option Addr → TS} {b₀ : Stmt} {suite : List Stmt} {np pos' : Pos} {hds : List ExceptHandler} {l : List HdT} (hc : Names X x c)
      (hsu : ∀ (a : Addr) (oe : Obj) (cls : Value) (d : Option Addr) (pn : List (Addr × Obj)), Zc cls d oe → (∃ vs, oe.data = .fields vs) → PSs (X.suite a ((a, oe) :: pn)) (b₀ :: suite) (ts a cls d)) (r : HdsA X hds l) :
      HdsA X (.ExceptHandler (some (.Name x np)) none (b₀ :: suite) pos' :: hds) ((c, none, ts) :: l)
  | consAs {x n : Str} {i : Nat} {c : Value} {ts : Addr → Value → Option Addr → TS} {b₀ : Stmt} {suite : List Stmt} {np pos' : Pos} {hds : List ExceptHandler} {l : List HdT} (hc : Names X x c) (hi : X.N[i]? = some n) (hln : X.env.kindOf n = some .local)
      (hsu : ∀ (a : Addr) (oe : Obj) (cls : Value) (d : Option Addr) (pn : List (Addr × Obj)), Zc cls d oe → (∃ vs, oe.data = .fields vs) → PSs (X.suite a ((a, oe) :: pn)) (b₀ :: suite) (ts a cls d)) (r : HdsA X hds l) :
      HdsA X (.ExceptHandler (some (.Name x np)) (some n) (b₀ :: suite) pos' :: hds) ((c, some i, ts) :: l)
section
variable {X : Cx} {body : List Stmt} {h₀ : ExceptHandler} {hds : List ExceptHandler} {l : List HdT} {pos : Pos} {tb : WX → TS} {Wout : WX}
theorem ps_try_manyA (hs : X.stack = X.env :: X.outer) (hf : X.env.frame = some X.env.locals) (hN : X.N.Nodup) (tk : Takes X Wout)
    (hb : ∀ (W : WX) (pn : List (Addr × Obj)) (xe : Value → Shared → Prop), Takes (X.tr pn xe) W → PassesOwn (model X.prog X.w) X.A X.env xe → PSs (X.tr pn xe) body (tb W))
    (hh : HdsA X (h₀ :: hds) l) : PS X (.Try body (h₀ :: hds) [] [] pos) (fun D σ H => tb (wManyA X.K Wout D l) D σ H) := by
  refine ⟨fun pins s σ H D I h => ?_⟩
  have ok := I.ok
  have hfr : X.A.frames = some (X.env :: X.outer) := by rw [ok.frames, hs]
  refine wpAny_Try_except ?_
  refine wpAny_mono ((hb (wManyA X.K Wout D l) (X.pn ++ pins) (fun e s₁ => wpAny (model X.prog X.w) X.A (noteFrame e X.env) (fun _ s₂ => wpAny (model X.prog X.w) X.A (setFlight e none) (fun _ s₃ =>
    wpAny (model X.prog X.w) X.A (handleBy e X.env (h₀ :: hds)) (SP X pins D) X.xe s₃) X.xe s₂) X.xe s₁) (fun u s' xx => ?_) PassesOwn.looking).run [] s σ H D (I.toTry _) h) (fun f s1 hsp => ?_) (fun e s1 he => he)
  · obtain ⟨a, B, sI, pins', σ', H', cls, d, rfl, J', nb, up, sky, na, os, ag, w⟩ := xx
    have J : Inv X pins σ' H' sI := J'.ofTry ok
    have sky' : Sky B (X.env :: X.outer) a (Zc cls d) X.env.locals s'.heap := by rw [← hs]; exact sky
    show wpAny (model X.prog X.w) X.A (noteFrame (.ref a) X.env) _ _ _
    refine Sky.land Zc.steady hfr hf sky' fun h3 fl3 up3 => ?_
    have J3 : Inv X pins σ' H' { s' with heap := h3 } := J.landed nb fl3.1 (up.trans up3) os ag
    obtain ⟨oe3, vs3, he3, hz3, hd3⟩ := fl3.there
    have notFr : ∀ {h : Heap} {o : Obj} {vs : Array Value}, h.FunFrames B (X.env :: X.outer) → h.get? a = some o → o.data = .fields vs → a ∉ frs (X.env :: X.outer) := fun {h o vs} ff e dd hm => by
      obtain ⟨_, o', e', hnf⟩ := ff.mem hm
      rw [e] at e'; cases e'
      exact hnf _ dd
    have nfr := notFr fl3.2.2.1 he3 hd3
    have nL : a ≠ X.env.locals := fun z => nfr (List.mem_filterMap.mpr ⟨X.env, List.mem_cons_self, by rw [hf, z]⟩)
    have nF : a ∉ X.fs := fun hm => by
      obtain ⟨e, he, q⟩ := List.mem_filterMap.mp hm
      exact nfr (List.mem_filterMap.mpr ⟨e, List.mem_cons_of_mem _ he, q⟩)
    have S3 := J3.suite he3 hd3 na nL nF
    have LT : PySem.W.Looks (model X.prog X.w) h3 (typeOf (.ref a)) cls := fun A Q E s k q => wpAny_typeOf_ref (k _ _ he3) (by rw [hz3.1]; exact q)
    have tst : ∀ {x : Str} {c : Value} {np : Pos} {Q : Value → Shared → Prop} {E : Value → Shared → Prop}, Names X x c → Q c { s' with heap := h3 } → wpAny (model X.prog X.w) (X.A.mark (some (.ref a))) (eval (.Name x np) X.env) Q E { s' with heap := h3 } := fun {x c np Q E} hc q => by
      obtain ⟨hg, hdbg, hm | ⟨hm, hv, hnn⟩⟩ := hc
      · exact ld_glob (X := X.suite a ((a, oe3) :: (X.pn ++ pins))) S3 hg hm q hdbg
      · exact ld_blt (X := X.suite a ((a, oe3) :: (X.pn ++ pins))) S3 hg hm hv q hnn hdbg
    have go : ∀ {hds' : List ExceptHandler} {l' : List HdT}, HdsA X hds' l' → wManyA X.K Wout D l' cls d σ' H' →
        wpAny (model X.prog X.w) X.A (handleBy (.ref a) X.env hds') (SP X pins D) X.xe { s' with heap := h3 } := by
      intro hds' l' hk
      induction hk with
      | nil =>
        intro w
        refine wpAny_handleBy_nil ?_
        obtain ⟨k1, k2, k3, oe, vs, T, oT, ts', he, hz, hd, h1, hr⟩ := id fl3
        unfold PySem.passOn
        refine wpAny_bind (wpAny_field he hd h1 ?_)
        rw [if_neg (show ¬ ((Value.ref T == Value.none) = true) from by simp)]
        have fin : wpAny (model X.prog X.w) X.A (setFlight (.ref a) X.env.frame) (fun _ s4 => wpAny (model X.prog X.w) X.A (throw (.ref a) : Sem Flow) (SP X pins D) X.xe s4) X.xe { s' with heap := h3 } := by
          rw [hf]
          refine HandSPX.setFlight_upZ fl3 fun h4 hh4 up4 => wpAny_throw (tk _ _ ?_)
          exact ⟨a, B, sI, pins, σ', H', cls, d, rfl, J, nb, (up.trans up3).trans up4, .inr (.inr (by rw [hs]; exact hh4)), na, os, ag, w⟩
        first
          | exact wpAny_bind (wpAny_pure (wpAny_bind fin))
          | exact wpAny_bind fin
      | @cons x c ts b₀ suite np pos' hds2 l2 hc hsu r ih =>
        intro w
        obtain ⟨b, hb1, hyes, hno⟩ := w
        refine wpAny_handleBy_cons (codeAny_handlers_test ?_) (by intro q; cases q)
        have LM := PySem.W.exm_one (M := model X.prog X.w) (J3.kIn) LT hb1
        refine tst hc (LM.here ?_)
        cases b with
        | true =>
          refine codeAny_handlers_suite ?_
          refine HandSPX.lands_againZ fl3 fun h4 fl4 up4 => ?_
          have J4 : Inv X pins σ' H' { s' with heap := h4 } := J.landed nb fl4.1 ((up.trans up3).trans up4) os ag
          obtain ⟨oe4, vs4, he4, hz4, hd4⟩ := fl4.there
          have S4 := J4.suite he4 hd4 na nL nF
          refine wpAny_mono ((hsu a oe4 cls d (X.pn ++ pins) hz4 ⟨_, hd4⟩).run [] _ _ H' _ S4 (hyes rfl a na)) (fun f s6 hsp => ?_) (fun _ _ z => False.elim z)
          cases f with
          | next =>
            obtain ⟨σ6, H6, S6, q6⟩ := hsp
            exact ⟨_, _, S6.unsuite ok, q6⟩
          | brk =>
            obtain ⟨σ6, H6, S6, q6⟩ := hsp
            exact ⟨_, _, S6.unsuite ok, q6⟩
          | cont =>
            obtain ⟨σ6, H6, S6, q6⟩ := hsp
            exact ⟨_, _, S6.unsuite ok, q6⟩
          | ret u =>
            obtain ⟨v6, σ6, H6, S6, r6, q6⟩ := hsp
            exact ⟨_, _, _, S6.unsuite ok, r6, q6⟩
        | false =>
          show wpAny _ X.A (handleBy (.ref a) X.env hds2) _ _ _
          exact ih (hno rfl)
      | @consAs x n i c ts b₀ suite np pos' hds2 l2 hc hi hln hsu r ih =>
        intro w
        have hloc : Loc X.env.scope n := .inl hln
        obtain ⟨b, hb1, hyes, hno⟩ := w
        refine wpAny_handleBy_cons (codeAny_handlers_test ?_) (by intro q; cases q)
        have LM := PySem.W.exm_one (M := model X.prog X.w) (J3.kIn) LT hb1
        refine tst hc (LM.here ?_)
        cases b with
        | true =>
          refine codeAny_handlers_suite_as ?_
          refine HandSPX.lands_againZ fl3 fun h4 fl4 up4 => ?_
          have J4 : Inv X pins σ' H' { s' with heap := h4 } := J.landed nb fl4.1 ((up.trans up3).trans up4) os ag
          obtain ⟨oe4, vs4, he4, hz4, hd4⟩ := fl4.there
          have S4 := J4.suite he4 hd4 na nL nF
          refine store_ok (X := X.suite a ((a, oe4) :: (X.pn ++ pins))) (v := .ref a) S4 hN hi hloc rfl (fun s5 S5 => ?_) (.inr hln)
          refine wpAny_mono ((hsu a oe4 cls d (X.pn ++ pins) hz4 ⟨_, hd4⟩).run [] s5 _ H' _ S5 (hyes rfl a na)) (fun f s6 hsp => ?_) (fun _ _ z => False.elim z)
          have end_ : ∀ {σ6 : L2.St} {H6 : Hp} {Q : Shared → Prop}, Inv (X.suite a ((a, oe4) :: (X.pn ++ pins))) [] σ6 H6 s6 → (∀ s7, Inv X pins (σ6.set i none) H6 s7 → Q s7) →
              wpAny (model X.prog X.w) X.A (do bindName X.env n .none; unbindBehindTheSuite X.env n pos') (fun _ s7 => Q s7) X.xe s6 := fun {σ6 H6 Q} S6 hq => gone_ok (S6.unsuite ok) hN hi hln hq
          cases f with
          | next =>
            obtain ⟨σ6, H6, S6, q6⟩ := hsp
            exact end_ S6 fun s7 J7 => ⟨_, _, J7, q6⟩
          | brk =>
            obtain ⟨σ6, H6, S6, q6⟩ := hsp
            exact end_ S6 fun s7 J7 => ⟨_, _, J7, q6⟩
          | cont =>
            obtain ⟨σ6, H6, S6, q6⟩ := hsp
            exact end_ S6 fun s7 J7 => ⟨_, _, J7, q6⟩
          | ret u =>
            obtain ⟨v6, σ6, H6, S6, r6, q6⟩ := hsp
            exact end_ S6 fun s7 J7 => ⟨_, _, _, J7, r6, q6⟩
        | false =>
          show wpAny _ X.A (handleBy (.ref a) X.env hds2) _ _ _
          exact ih (hno rfl)
    exact go hh w
  · cases f with
    | next =>
      obtain ⟨σ', H', J', q⟩ := hsp
      exact wpAny_execs_nil ⟨σ', H', J'.ofTry ok, q⟩
    | brk =>
      obtain ⟨σ', H', J', q⟩ := hsp
      exact ⟨σ', H', J'.ofTry ok, q⟩
    | cont =>
      obtain ⟨σ', H', J', q⟩ := hsp
      exact ⟨σ', H', J'.ofTry ok, q⟩
    | ret u =>
      obtain ⟨v, σ', H', J', r, q⟩ := hsp
      exact ⟨v, σ', H', J'.ofTry ok, r, q⟩
end

/-! ## .. in functions -/
/-- a clause: does it take an exception of a class; its name's slot; the suite, by what the exception holds -/
abbrev Hd := (Addr → Option Bool) × Option Nat × (List (Str × D) → Sd)
def setNo (i : Option Nat) (Γ : En) : En := match i with
  | none => Γ
  | some i => Γ.set i none
def SR.behind (i : Option Nat) : SR → SR
  | .nx Γ S => .nx (setNo i Γ) S
  | .bk Γ S => .bk (setNo i Γ) S
  | .ct Γ S => .ct (setNo i Γ) S
  | .rt d S => .rt d S
  | _ => .bad
def okSlot (i : Option Nat) (Γ : En) : Bool := match i with
  | none => true
  | some i => decide (i < Γ.length)
def runH (c : Addr) (fs : List (Str × D)) (Γ : En) (S : Sto) : List Hd → SR
  | [] => .ex c fs Γ S
  | (mt, i, su) :: r => match mt c with
    | some true => if okSlot i Γ = true then (su fs (setNo i Γ) S).behind i else .bad
    | some false => runH c fs Γ S r
    | none => .bad
def sTry (b : Sd) (l : List Hd) : Sd := fun Γ S => match b Γ S with
  | .ex c fs Γ' S' => runH c fs Γ' S' l
  | r => r
/-- the base of a suite: the exception's dict stands at dd, the clause's slot holds it -/
structure InSu (K : PySem.W.Frag) (B : Bs) (B' : Bs) (i : Option Nat) (a : Addr) (dd : Addr) (fs : List (Str × D)) : Prop where
  up : Step B.w B'.w
  pr : ∀ σ, B'.P σ → B.P σ
  ex : ∃ vs, ExAt B'.w dd vs ∧ Fld K B'.w.r B'.w.F vs fs
  sl : ∀ j, i = some j → ∀ σ, B'.P σ → σ[j]? = some (some (.ref a))
inductive TrH (X : Cx) (B : Bs) : List ExceptHandler → List Hd → Prop
  | nil : TrH X B [] []
  | cons {x : Str} {cc : Value} {mt : Addr → Option Bool} {su : List (Str × D) → Sd} {b₀ : Stmt} {suite : List Stmt} {np pos' : Pos} {hds : List ExceptHandler} {l : List Hd} (hc : Names X x cc) (hm : ∀ c b, mt c = some b → PySem.W.exmOne X.K (.ref c) cc = some b)
      (hsu : ∀ (a : Addr) (oe : Obj) (c dd : Addr) (fs : List (Str × D)) (pn : List (Addr × Obj)) (B' : Bs), mt c = some true → Zc (.ref c) (some dd) oe → (∃ vs, oe.data = .fields vs) → InSu X.K B B' none a dd fs → TrSs (X.suite a ((a, oe) :: pn)) B' W0 (b₀ :: suite) (su fs)) (r : TrH X B hds l) :
      TrH X B (.ExceptHandler (some (.Name x np)) none (b₀ :: suite) pos' :: hds) ((mt, none, su) :: l)
  | consAs {x n : Str} {i : Nat} {cc : Value} {mt : Addr → Option Bool} {su : List (Str × D) → Sd} {b₀ : Stmt} {suite : List Stmt} {np pos' : Pos} {hds : List ExceptHandler} {l : List Hd} (hc : Names X x cc) (hm : ∀ c b, mt c = some b → PySem.W.exmOne X.K (.ref c) cc = some b) (kp : Keeps B i)
      (hi : X.N[i]? = some n) (hln : X.env.kindOf n = some .local)
      (hsu : ∀ (a : Addr) (oe : Obj) (c dd : Addr) (fs : List (Str × D)) (pn : List (Addr × Obj)) (B' : Bs), mt c = some true → Zc (.ref c) (some dd) oe → (∃ vs, oe.data = .fields vs) → InSu X.K B B' (some i) a dd fs → TrSs (X.suite a ((a, oe) :: pn)) B' W0 (b₀ :: suite) (su fs)) (r : TrH X B hds l) :
      TrH X B (.ExceptHandler (some (.Name x np)) (some n) (b₀ :: suite) pos' :: hds) ((mt, some i, su) :: l)
section
variable {X : Cx} {B : Bs}
theorem EnOk.base {K : PySem.W.Frag} {B B' : Bs} {w : Wd} {Γ : En} {σ : L2.St} {i : Option Nat} {a dd : Addr} {fs : List (Str × D)} (h : EnOk K B' w Γ σ) (z : InSu K B B' i a dd fs) : EnOk K B w Γ σ := ⟨⟨z.up.trans h.1.1, z.pr _ h.1.2⟩, h.2⟩
def tsOf (X : Cx) (B : Bs) (mt : Addr → Option Bool) (i : Option Nat) (su : List (Str × D) → Sd) (a : Addr) (cls : Value) (d : Option Addr) : TS := fun E σ H =>
  ∃ c dd fs B', cls = .ref c ∧ d = some dd ∧ mt c = some true ∧ InSu X.K B B' i a dd fs ∧ cS X.K B' W0 (su fs) E σ H
theorem endAt_rt (i : Option Nat) (E : Ends) : (endAt i E).rt = E.rt := by cases i <;> rfl
theorem suite_ok {K : PySem.W.Frag} {W : WX} {w : Wd} {r : SR} {E : Ends} {i : Option Nat} {B' : Bs} {a dd : Addr} {fs : List (Str × D)} (kp : ∀ j, i = some j → Keeps B j) (z : InSu K B B' i a dd fs) (q : PoS K B W w (r.behind i) E) : PoS K B' W0 w r (endAt i E) := by
  have bk : ∀ {w' : Wd} {Γ : En} {σ' : L2.St}, EnOk K B' w' Γ σ' → ∀ {R : L2.St → Hp → Prop}, (∀ σ2, EnOk K B w' (setNo i Γ) σ2 → R σ2 w'.H) → (match i with | none => R σ' w'.H | some i => R (σ'.set i none) w'.H) := fun {w' Γ σ'} g {R} k => by
    cases i with
    | none => exact k σ' (g.base z)
    | some i => exact k _ ((g.base z).forget (kp i rfl))
  cases r with
  | nx Γ S =>
    intro w' σ' t o g
    have h := bk g (R := E.nx) fun σ2 g2 => q w' σ2 t o g2
    cases i <;> exact h
  | bk Γ S =>
    intro w' σ' t o g
    have h := bk g (R := E.bk) fun σ2 g2 => q w' σ2 t o g2
    cases i <;> exact h
  | ct Γ S =>
    intro w' σ' t o g
    have h := bk g (R := E.ct) fun σ2 g2 => q w' σ2 t o g2
    cases i <;> exact h
  | rt d S =>
    intro w' v t o r
    rw [endAt_rt]
    exact q w' v t o r
  | ex c fs Γ S => exact q.elim
  | bad => exact q.elim
theorem TrH.to {hds : List ExceptHandler} {l : List Hd} (h : TrH X B hds l) : ∃ l' : List HdT, HdsA X hds l' ∧ ∀ (W : WX) (E : Ends) (w : Wd) (σ : L2.St) (c : Addr) (fs : List (Str × D)) (Γ : En) (S : Sto) (dx : Addr) (vs : List (Str × V)),
    w.Ok X.K S → EnOk X.K B w Γ σ → ExAt w dx vs → Fld X.K w.r w.F vs fs → PoS X.K B W w (runH c fs Γ S l) E → wManyA X.K W E l' (.ref c) (some dx) σ w.H := by
  induction h with
  | nil => exact ⟨[], .nil, fun W E w σ c fs Γ S dx vs o g e f q => q w σ dx vs (Step.refl _) o g e f⟩
  | @cons x cc mt su b₀ suite np pos' hds l hc hm hsu r ih =>
    obtain ⟨l', h1, h2⟩ := ih
    refine ⟨(cc, none, tsOf X B mt none su) :: l', .cons hc (fun a oe cls d pn hz hf => ⟨fun pins s σ H E I h => ?_⟩) h1, fun W E w σ c fs Γ S dx vs o g e f q => ?_⟩
    · obtain ⟨c, dd, fs, B', rfl, rfl, e, z, q⟩ := h
      exact (hsu a oe c dd fs pn B' e hz hf z).run pins s σ H E I q
    · unfold runH at q
      cases em : mt c with
      | none => rw [em] at q; exact q.elim
      | some b =>
        rw [em] at q
        refine ⟨b, hm c b em, fun hb a na => ?_, fun hb => ?_⟩
        · subst hb
          dsimp only at q
          split at q
          · have z : InSu X.K B ⟨w, B.P⟩ none a dx fs := ⟨g.1.1, fun _ h => h, ⟨vs, e, f⟩, fun j hj => nomatch hj⟩
            exact ⟨c, dx, fs, ⟨w, B.P⟩, rfl, rfl, em, z, w.r, w.F, Γ, S, o, ⟨⟨Step.refl _, g.1.2⟩, g.2⟩, suite_ok (fun j hj => nomatch hj) z q⟩
          · exact q.elim
        · subst hb
          exact h2 W E w σ c fs Γ S dx vs o g e f q
  | @consAs x n i cc mt su b₀ suite np pos' hds l hc hm kp hi hln hsu r ih =>
    obtain ⟨l', h1, h2⟩ := ih
    refine ⟨(cc, some i, tsOf X B mt (some i) su) :: l', .consAs hc hi hln (fun a oe cls d pn hz hf => ⟨fun pins s σ H E I h => ?_⟩) h1, fun W E w σ c fs Γ S dx vs o g e f q => ?_⟩
    · obtain ⟨c, dd, fs, B', rfl, rfl, e, z, q⟩ := h
      exact (hsu a oe c dd fs pn B' e hz hf z).run pins s σ H E I q
    · unfold runH at q
      cases em : mt c with
      | none => rw [em] at q; exact q.elim
      | some b =>
        rw [em] at q
        refine ⟨b, hm c b em, fun hb a na => ?_, fun hb => ?_⟩
        · subst hb
          dsimp only at q
          split at q
          · rename_i hok
            have hlt : i < Γ.length := of_decide_eq_true hok
            have z : InSu X.K B ⟨w, fun σ => B.P σ ∧ σ[i]? = some (some (.ref a))⟩ (some i) a dx fs := ⟨g.1.1, fun _ h => h.1, ⟨vs, e, f⟩, fun j hj σ h => by cases hj; exact h.2⟩
            have g' := g.forget (i := i) (v := some (V.ref a)) kp
            refine ⟨c, dx, fs, _, rfl, rfl, em, z, w.r, w.F, Γ.set i none, S, o, ⟨⟨Step.refl _, g'.1.2, ?_⟩, g'.2⟩, suite_ok (fun j hj => by cases hj; exact kp) z q⟩
            exact List.getElem?_set_self (by rw [← g.2.1]; exact hlt)
          · exact q.elim
        · subst hb
          exact h2 W E w σ c fs Γ S dx vs o g e f q
theorem ts_try {W : WX} {body : List Stmt} {h₀ : ExceptHandler} {hds : List ExceptHandler} {l : List Hd} {pos : Pos} {m : Sd} (nd : X.N.Nodup) (tk : Takes X W)
    (hb : ∀ (W : WX) (pn : List (Addr × Obj)) (xe : Value → Shared → Prop), Takes (X.tr pn xe) W → PassesOwn (model X.prog X.w) X.A X.env xe → TrSs (X.tr pn xe) B W body m) (hh : TrH X B (h₀ :: hds) l)
    (hs : X.stack = X.env :: X.outer := by rfl) (hf : X.env.frame = some X.env.locals := by rfl) : TrS X B W (.Try body (h₀ :: hds) [] [] pos) (sTry m l) := by
  obtain ⟨l', h1, h2⟩ := hh.to
  refine imS (ps_try_manyA (tb := fun W => cS X.K B W m) hs hf nd tk hb h1) fun E σ H h => ?_
  obtain ⟨r, F, Γ, S, o, g, q⟩ := h
  refine ⟨r, F, Γ, S, o, g, ?_⟩
  unfold sTry at q
  cases e : m Γ S with
  | nx Γ' S' => rw [e] at q; exact q
  | bk Γ' S' => rw [e] at q; exact q
  | ct Γ' S' => rw [e] at q; exact q
  | rt d S' => rw [e] at q; exact q
  | bad => rw [e] at q; exact q.elim
  | ex c fs Γ' S' =>
    rw [e] at q
    exact fun w' σ' dx vs t o' g' e' f' => h2 W E w' σ' c fs Γ' S' dx vs o' g' e' f' (PoS.step t q)
/-- e.f in a suite, e the caught exception -/
def mLook (fs : List (Str × D)) (f : Str) : Ed := fun _ S => match fs.lookup f with
  | some d => .ok d S
  | none => .bad
theorem tr_xf {W : WX} {B' : Bs} {i : Nat} {a c dd : Addr} {oe : Obj} {fs : List (Str × D)} {pn : List (Addr × Obj)} {n f : Str} {p pos : Pos} (z : InSu X.K B B' (some i) a dd fs) (hz : Zc (.ref c) (some dd) oe) (hf : ∃ vs, oe.data = .fields vs) (T : XfC X.K c) (hno : PySem.W.findIn X.K (.ref c) f = some none)
    (hv : PE (X.suite a ((a, oe) :: pn)) (.Name n p) (tVar i)) (hb : attributeBase (.Name n p) f X.env (eval (.Name n p) X.env) = eval (.Name n p) X.env := by rfl) : Tr (X.suite a ((a, oe) :: pn)) B' W (.Attribute (.Name n p) f pos) (mLook fs f) := by
  refine imE (pe_xf T hno hz hf hv hb) fun σ H Q h => ?_
  obtain ⟨r, F, Γ, S, o, g, q⟩ := h
  obtain ⟨vs, e, ff⟩ := z.ex
  obtain ⟨e1, _, _⟩ := g.1.1.at_side e.1 e.2.1 e.2.2
  unfold mLook at q
  cases el : fs.lookup f with
  | none => rw [el] at q; exact q.elim
  | some d =>
    rw [el] at q
    obtain ⟨v, h1, h2⟩ := (ff.up g.1.1.pre g.1.1.sub).look el
    exact ⟨.ref a, z.sl i rfl σ g.1.2, rfl, rfl, dd, vs, v, rfl, e1, h1, q.now o h2⟩
end

/-! ## raise -/
def tMkX (C : Addr) (f : Str) (ta : TA) : L2.St → Hp → XK → Prop := fun σ H Q => ta σ H fun vs H1 => ∃ v, vs = [v] ∧ ∀ d, H1 d = none → Q (.ref C) (some d) (upd H1 d (.xd [(f, v)]))
def sRaise (C : Addr) (f : Str) (a : Ed) : Sd := fun Γ S => (a Γ S).toS Γ fun d S' => .ex C [(f, d)] Γ S'
theorem ts_raise {X : Cx} {B : Bs} {W : WX} {C : Addr} {f x : Str} {e : Expr} {me : Ed} {p pos pos' : Pos} (tk : Takes X W) (hmk : ∀ ta, PA X [e] ta → PMk X (.Call (.Name x p) [e] [] pos') (tMkX C f ta)) (ha : Tr X B W e me)
    (hpa : ∀ te, PE X e te → PA X [e] (tCons te tNil) := by exact fun _ h => pa_cons h pa_nil) (hc : X.calm = true := by rfl) : TrS X B W (.Raise (some (.Call (.Name x p) [e] [] pos')) none pos) (sRaise C f me) := by
  refine imS (ps_raise hc tk (hmk _ (hpa _ ha))) fun E σ H h => ?_
  obtain ⟨r, F, Γ, S, o, g, q⟩ := h
  refine ⟨r, F, Γ, S, o, g, PoS.bindE g q fun d S1 w1 v _ t1 o1 rp1 q1 => ?_⟩
  refine ⟨v, rfl, fun dx hd => ?_⟩
  obtain ⟨o2, t2⟩ := o1.side (u := .xd [(f, v)]) (.inl hd)
  exact q1 ⟨w1.r, w1.F, upd w1.H dx (.xd [(f, v)])⟩ σ dx _ (t2 hd) o2 ((g.step t1).step (t2 hd)) ⟨upd_same, o1.notin hd, o1.noF hd⟩ (.cons ⟨rfl, rp1⟩ .nil)
end Fx
end

section
set_option Elab.async false
set_option linter.all false
set_option maxRecDepth 100000
set_option maxHeartbeats 2000000
/-! own errors whose __init__ says super().__init__(x); self.f = x -/
namespace Fx
open PySem PySem.Spec PyProof.Rows L2 NdefX

structure SupC (K : PySem.W.Frag) (C D : Addr) (f : Str) : Prop where
  ox : OexC K C
  ve : PySem.W.subIn K (.ref C) (.type "ValueError") = some true
  su : PySem.W.ks_superIn K C D "__init__" = some (some (.builtin "ValueError.__init__"))
  md : PySem.W.mroIn K C (.ref D) = some true
  no : PySem.W.findIn K (.ref C) f = some none
/-- what such an __init__ does to (the object, a value) -/
def spSup (K : PySem.W.Frag) (D : Addr) (f : Str) : Sp := fun vs H Q E => ∃ a C v, vs = [.ref a, v] ∧ H a = some (exo a C none) ∧ SupC K C D f ∧ ∀ dx, H dx = none → dx ≠ a → Q .non (upd (upd H dx (exd dx [(f, v)])) a (exo a C (some dx)))
abbrev supBody (n0 n1 fld : Str) (p0 p1 p2 p3 p4 p5 p6 p7 p8 p9 : Pos) : List Stmt :=
  [.Expr (.Call (.Attribute (.Call (.Name "super" p0) [] [] p1) "__init__" p2) [.Name n1 p3] [] p4) p5, .Assign [.Attribute (.Name n0 p6) fld p7] (.Name n1 p8) p9]

section
variable {X : Cx} {pins : List (Addr × Obj)} {σ : L2.St} {H : Hp} {s : Shared}
theorem loc_at (I : Inv X pins σ H s) {i : Nat} {n : Str} {v : V} (hn : X.N[i]? = some n) (hv : σ[i]? = some (some v)) (hk : X.env.kindOf n = some .local) : ∃ m u, s.heap.Ns X.env.locals m ∧ m n = some u ∧ L2.RelV v u := by
  obtain ⟨m, hns, q⟩ := I.loc
  obtain ⟨u, r, l⟩ := q i n v hn hv (.inl hk)
  rcases l with ⟨_, l⟩ | ⟨l, _⟩
  · exact ⟨m, u, hns, l, r⟩
  · rw [hk] at l
    rcases l with l | l <;> cases l
/-- the built-in __init__, bound to the object, called -/
theorem bound_init {a C u : Addr} {us : List Value} {Q : Value → Shared → Prop} {E : Value → Shared → Prop} {A : Around} (T : OexC X.K C) (I : Inv X pins σ H s) (e : H a = some (exo a C none)) (hu : s.heap.get? u = some (PySem.W.kxs_mw "ValueError.__init__" a)) (hl : us.length ≤ sizeLine)
    (h : ∀ s', Inv X pins σ H s' → Q .none s') : wpAny (model X.prog X.w) A (call (.ref u) us) Q E s := by
  obtain ⟨nm, q, N, bs, bm, sn, sub, ab, col, dd, k0, k1, k2, k3, k5, hC, hbm⟩ := T.cls
  obtain ⟨t1, ho⟩ := exo_at I.hok e
  obtain ⟨hp, g, d, t, os⟩ := s
  have fin : ∀ h', (∀ b o, b ≠ a → hp.get? b = some o → h'.get? b = some o) → h'.get? a = some (PySem.HandSPX.excO C hp.objs.size) → h'.get? hp.objs.size = some (PySem.W.excTup us) → Q .none ⟨h', g, d, t, os⟩ := fun h' k hx _ => by
    have J := I.write (t' := t) (x := a) (e := a) (o := exo a C none) (by rw [e]; exact True.intro) (.inl rfl) k ⟨_, hx⟩ (exo_ok hx)
    have eu : upd H a (exo a C none) = H := by
      funext b
      by_cases hb : b = a
      · rw [hb, upd_same, e]
      · rw [upd_ne hb]
    rw [eu] at J
    exact h _ J
  refine wpAny_call (codeAny_of_tree ?_)
  show wpAny _ A.in1 (callAny (.ref u) ⟨us, []⟩) _ _ _
  simp only [callAny]
  refine wpAny_bind (wpAny_load hu ?_)
  simp only [PySem.W.kxs_mw, show (Value.type "method-wrapper" == Value.type "method" || Value.type "method-wrapper" == Value.type "builtin_function_or_method" || Value.type "method-wrapper" == Value.type "method-wrapper") = true by decide, if_true]
  refine PySem.W.KFB.if_so (by decide) ?_
  refine wpAny_bind (PySem.W.check_bound_init PySem.F.excBase_ValueError.toExcCallFacts (I.kIn _ _ hC) ho rfl ?_)
  refine wpAny_bind (wpAny_pure (wpAny_pure ?_))
  refine ⟨plainId_quiet PySem.F.excBase_ValueError.init.plain _, codeAny_builtin PySem.F.excBase_ValueError.initEntry ?_⟩
  exact PySem.W.exc_init_tree (cls := .ref C) (t0 := t1) (dv := none) (c2 := .none) (c3 := .none) (b4 := .bool false) ho hl fin
end
theorem sup_fn {CX : CXT} {P : Program} {w : World} {K : PySem.W.Frag} {mg : Str → Option Value} {base : Heap} {k : Nat} {f cda cc D : Addr} {name qual : Str} {params : Arguments} {scope : Scope} {dV kV doc pm ct oc ccl cl : Value} {an od cdd cld : Option Addr} {osl ccs csl : Array (Option Value)} {n0 n1 fld : Str} {p0 p1 p2 p3 p4 p5 p6 p7 p8 p9 : Pos} {ar : Arg} {vs2 : Array Value} {file : Str} {tf : Tok} {cdD : ClassData}
    (lk : K.lookup f = some ⟨oc, od, .func (PySem.W.ksFn name qual params (supBody n0 n1 fld p0 p1 p2 p3 p4 p5 p6 p7 p8 p9) scope dV kV doc pm an (.ref cda) ct cc), osl⟩) (hcd : PySem.W.codeIn K (.ref cda) qual = true)
    (S : NScope [n0, n1, "__class__"] [n0, n1] ["__class__"] scope) (hp : (params.posonlyargs ++ params.args).head? = some ar) (har : ar.arg = n0)
    (hcode : K.lookup cda = some ⟨ccl, cdd, .fields vs2, ccs⟩) (hvs : vs2[2]? = some (.str file tf)) (hfile : ((P.main.file : Str) == file) = true)
    (hcell : K.lookup cc = some ⟨cl, cld, .cell (some (.ref D)), csl⟩) (hD : PySem.W.clsIn K D = some cdD) (hsuper : mg "super" = none) (hks : scope.names.lookup ("super" : Str) = some .globalImplicit) (htop : (P.main.scope.names.lookup ("super" : Str)).isSome = false)
    (hany : PySem.W.nsIn K cStatics "thirdparty.any" = some none) (hdb : (n0 == ("__debug__" : Str)) = false) (hdb1 : (n1 == ("__debug__" : Str)) = false) (hdc : (n0 == ("__classdict__" : Str)) = false) (hdc1 : (n1 == ("__classdict__" : Str)) = false) (hboot : bootBuiltins "super" = some (.type "super"))
    (hint : ∀ L, interactive (PySem.W.ksEnv qual scope L f (.ref cda) cc) = false)
    (pl : Addr → Sem Bool) (hev : ∀ L, eval (.Call (.Attribute (.Call (.Name "super" p0) [] [] p1) "__init__" p2) [.Name n1 p3] [] p4) (PySem.W.ksEnv qual scope L f (.ref cda) cc) = (do
      let ov ← attributeBase (.Call (.Name "super" p0) [] [] p1) "__init__" (PySem.W.ksEnv qual scope L f (.ref cda) cc) (eval (.Call (.Name "super" p0) [] [] p1) (PySem.W.ksEnv qual scope L f (.ref cda) cc))
      standAt p2.atName
      let (f', first) ← holding [ov] (getMethod ov "__init__" (pl L))
      callWith p4 f' first (backTo p4 (starEach [.Name n1 p3] (PySem.W.ksEnv qual scope L f (.ref cda) cc))) [])) :
    FnOk P w K mg base CX (k + 1) f (PySem.W.ksFn name qual params (supBody n0 n1 fld p0 p1 p2 p3 p4 p5 p6 p7 p8 p9) scope dV kV doc pm an (.ref cda) ct cc) [n0, n1] (spSup K D fld) := by
  refine ⟨fun vs H Q E ⟨a, C, v, e, _⟩ => by subst e; rfl, fun A outer s H args us vs Q E hr e0 hb r hsp => ?_⟩
  obtain ⟨a, C, v, rfl, ea, SC, hq⟩ := hsp
  have KX : K.In s.heap := e0.mod.kin.keeps fun b o e => (e0.bs b o e).1
  have lim : s.heap.NoLimit := e0.mod.nolimit.keeps fun b o e => (e0.bs b o e).1
  have hl := r.length
  have hkc : scope.names.lookup ("__class__" : Str) = some .free := S.frk ("__class__" : Str) (by simp)
  have hk0 : scope.names.lookup n0 = some .local := S.par n0 (by simp)
  have hk1 : scope.names.lookup n1 = some .local := S.par n1 (by simp)
  refine PySem.ks_codeAny_call_defAt hr.depth (KX _ _ lk) rfl lim (PySem.W.codeRec_of KX hcd) rfl hb S.nocell (fun y hy => S.par y.1 (List.of_mem_zip (a := y.1) (b := y.2) hy).1) (fun h₁ hns kp => ?_) S.co S.gen S.kind
  have cellIn : s.heap.get? cc = some ⟨cl, cld, .cell (some (.ref D)), csl⟩ := KX _ _ hcell
  have hbc : base.get? cc = some ⟨cl, cld, .cell (some (.ref D)), csl⟩ := e0.mod.kin _ _ hcell
  let F : NF := ⟨name, qual, params, supBody n0 n1 fld p0 p1 p2 p3 p4 p5 p6 p7 p8 p9, scope, [("__class__", cc)], cda⟩
  have CA : CellsAt F.cl ["__class__"] [none] s.heap H := by
    refine ⟨rfl, fun y c e => ?_, fun x y c e1 e2 => ?_, fun i y hi => ?_⟩
    · have : c = cc := by
        have e : ([("__class__", cc)] : List (Str × Addr)).lookup y = some c := e
        simp only [List.lookup] at e
        split at e
        · exact (Option.some.inj e).symm
        · cases e
      subst this
      exact ⟨(e0.bs _ _ hbc).2, _, _, cellIn, rfl⟩
    · have e1 : ([("__class__", cc)] : List (Str × Addr)).lookup x = some c := e1
      have e2 : ([("__class__", cc)] : List (Str × Addr)).lookup y = some c := e2
      simp only [List.lookup] at e1 e2
      split at e1
      · rename_i h1
        split at e2
        · rename_i h2
          exact (by simpa using h1 : x = "__class__").trans (by simpa using h2 : y = "__class__").symm
        · cases e2
      · cases e1
    · match i with
      | 0 =>
        have : "__class__" = y := Option.some.inj hi
        subst this
        exact ⟨cc, rfl, fun v hv => by cases hv⟩
      | n + 1 => exact absurd hi (by simp)
  have I : Inv (ncx CX P w K mg base [n0, n1, "__class__"] F f A outer s H E) [] (startF [n0, n1, "__class__"] [.ref a, v] [none]) H { s with heap := h₁, toks := s.toks + ([n0, n1].zip us).length } := inv_startN (F := F) S hr.hd e0 rfl r CA hns kp
  let X : Cx := ncx CX P w K mg base [n0, n1, "__class__"] F f A outer s H E
  have I : Inv X [] (startF [n0, n1, "__class__"] [.ref a, v] [none]) H { s with heap := h₁, toks := s.toks + ([n0, n1].zip us).length } := I
  obtain ⟨m, u0, hn0, hm0, ru0⟩ := loc_at I (i := 0) (n := n0) (v := .ref a) rfl rfl hk0
  obtain rfl : u0 = Value.ref a := ru0
  obtain ⟨nm, q, N, bs, bm, sn, sub, ab, col, dd, k0, k1, k2, k3, k5, hC, hbm⟩ := SC.ox.cls
  obtain ⟨t1, ho⟩ := exo_at I.hok ea
  have KI := I.kIn
  obtain ⟨oD, hD1, hD2⟩ : ∃ oD, h₁.get? D = some oD ∧ oD.data = .cls cdD := by
    unfold PySem.W.clsIn at hD
    split at hD
    · rename_i c d cd' sl ho
      cases hD
      exact ⟨_, KI _ _ ho, rfl⟩
    · cases hD
  have hne : a ≠ C := fun z => by
    have z1 := KI _ _ hC
    rw [← z] at z1
    rw [ho] at z1
    exact absurd (congrArg Obj.data (Option.some.inj z1)) (by simp [excClassObj])
  obtain ⟨mb, hb1, hb2⟩ := I.mod.blt
  refine ks_wpAt_execs_cons (ks_wpAt_Expr_any (ks_wpAt_MethodCall (env := PySem.W.ksEnv qual scope s.heap.objs.size f (.ref cda) cc) (pl := pl _) ?_ (hev _)) (hint _))
  refine ks_wpAt_super_base (env := PySem.W.ksEnv qual scope s.heap.objs.size f (.ref cda) cc) hks hkc (by decide) rfl (KI _ _ lk) rfl hp rfl (KI _ _ hcode) rfl hvs hfile htop ?_
  refine PySem.W.ks_loadName_global S.kind hks (Calls.loadGlobal_builtin (env := PySem.W.ksEnv qual scope s.heap.objs.size f (.ref cda) cc) (I.mod.glob.keeps I.bk) hsuper (hb1.keeps I.bk) ((hb2 _ (by decide +kernel)).trans hboot) ⟨rfl, ?_⟩)
  refine wpAny_loadName_free S.kind hkc rfl ⟨_, KI _ _ hcell, rfl⟩ ?_
  rw [har]
  refine wpAny_loadName_local S.kind hk0 hn0 hm0 ?_
  refine ks_wpAny_isType_cls hD1 hD2 ⟨rfl, ?_⟩
  refine ks_wpAny_call_super hD1 hD2 ho rfl (fun c e => by cases e) (PySem.W.looks_mroIn KI SC.md) (fun h2 hso k2 => ?_)
  have I2 : Inv X [] (startF [n0, n1, "__class__"] [.ref a, v] [none]) H { s with heap := h2, toks := s.toks + ([n0, n1].zip us).length } := I.kept k2
  have KI2 := I2.kIn
  have ho2 := k2 _ _ ho
  have hsz : ∀ n : Nat, s.toks + ([n0, n1].zip us).length + n = s.toks + ([n0, n1].zip us).length + n := fun _ => rfl
  cases hcd2 : PySem.W.clsIn K C with
  | none => have z := SC.su; unfold PySem.W.ks_superIn at z; rw [hcd2] at z; cases z
  | some cd =>
  have hsu := SC.su
  unfold PySem.W.ks_superIn at hsu
  rw [hcd2] at hsu
  have IA : PySem.W.InstAt h2 a _ C none := ⟨ho2, rfl, rfl, trivial⟩
  have hI : PySem.W.Looks (model P w) h2 (isInstance (.ref a) (.type "ValueError")) true := IA.type.andThen (PySem.W.looks_subIn KI2 SC.ve)
  refine PySem.W.kxs_getMethod PySem.W.kxs_ValueError hso (PySem.W.looks_opaque KI2 hany) (l₀ := cd.mro) (fun A Q E s k q => wpAny_bind ((PySem.W.looks_clsIn KI2 hcd2) A _ E s k (wpAny_pure q))) rfl KI2 hsu hI hne (by decide) ?_
  have k3 : ∀ b o, h2.get? b = some o → (h2.push (PySem.W.kxs_mw "ValueError.__init__" a)).get? b = some o := fun b o e => Heap.get?_push_of_some _ e
  have hu3 : (h2.push (PySem.W.kxs_mw "ValueError.__init__" a)).get? h2.objs.size = some (PySem.W.kxs_mw "ValueError.__init__" a) := Heap.get?_push_at rfl rfl
  have I3 : Inv X [] (startF [n0, n1, "__class__"] [.ref a, v] [none]) H { s with heap := h2.push (PySem.W.kxs_mw "ValueError.__init__" a), toks := s.toks + ([n0, n1].zip us).length + 1 } := I2.kept k3
  obtain ⟨m3, u1, hn3, hm3, ru1⟩ := loc_at I3 (i := 1) (n := n1) (v := v) rfl rfl hk1
  refine PySem.W.kxs_callWith (i := "ValueError.__init__") (x := a) (by rfl) (Calls.evalArgs_plain (Calls.spliced_cons ?_))
  refine wpAny_Name (wpAny_loadName_local S.kind hk1 hn3 hm3 ?_) hdb1
  refine Calls.spliced_nil ⟨hu3, ?_⟩
  refine bound_init (X := X) SC.ox I3 ea hu3 (by simp [sizeLine_eq]) fun s4 I4 => ?_
  refine wpAt_of_wpAny ?_
  have hfin := (pss_cons (ps_ost (X := X) (o := .Name n0 p6) (e := .Name n1 p8) (p' := p7) (pos := p9) (f := fld) (pe_var (i := 0) rfl (.inl hk0) hdb hdc) (pe_var (i := 1) rfl (.inl hk1) hdb1 hdc1) rfl) pss_nil).run
  refine wpAny_mono (hfin [] s4 _ H { nx := fun _ H' => Q .non H', rt := Q } I4 ⟨v, rfl, .ref a, rfl, a, C, rfl, SC.ox, SC.no, .inl ⟨ea, hq⟩⟩) (fun fl s' hs => ?_) fun e s' hs => hs
  cases fl with
  | ret u =>
    obtain ⟨v, σ', H', J, rv, q⟩ := hs
    exact ⟨v, H', J.os, J.bare, J.base, J.hok, rv, q⟩
  | next =>
    obtain ⟨σ', H', J, q⟩ := hs
    exact ⟨V.non, H', J.os, J.bare, J.base, J.hok, rfl, q⟩
  | brk =>
    obtain ⟨_, _, _, q⟩ := hs
    exact False.elim q
  | cont =>
    obtain ⟨_, _, _, q⟩ := hs
    exact False.elim q
def wkA (ta : TA) : TA := fun σ H Q => ∃ Q', ta σ H Q' ∧ ∀ vs H1, Q' vs H1 → Q vs H1
theorem pa_wk {X : Cx} {es : List Expr} {ta : TA} (h : PA X es ta) : PA X es (wkA ta) := ⟨fun pos pins s σ H Q I ⟨Q', h1, h2⟩ => thn (h.run pos pins s σ H Q' I h1) fun us s1 ⟨vs, H1, I1, r, q⟩ => ⟨vs, H1, I1, r, h2 _ _ q⟩⟩
theorem pmk_sup {X : Cx} {CX : CXT} {x : Str} {C D fI : Addr} {k : Nat} {fd : FuncData} {n0 n1 fld : Str} {e : Expr} {p pos : Pos} {ta : TA} (SC : SupC X.K C D fld) (iC : PySem.W.findIn X.K (.ref C) "__init__" = some (some (.ref fI))) (tI : PySem.W.typeIn X.K (.ref fI) = some (.type "function"))
    (F1 : FnOk X.prog X.w X.K X.mg X.base CX k fI fd [n0, n1] (spSup X.K D fld)) (hr : Room (k + 1) X.A) (hb : Binds X.K fd [n0, n1] []) (hx : Passes CX X (fun _ _ _ => False)) (hg : Gl X x) (hm : X.mg x = some (.ref C)) (ha : PA X [e] ta)
    (hdb : (x == ("__debug__" : Str)) = false := by decide) (he : starEach [e] X.env = (false, eval e X.env) :: starEach [] X.env := by rfl) :
    PMk X (.Call (.Name x p) [e] [] pos) (tMkX C fld ta) := by
  intro pins s σ H Q I h
  refine pmk_oex (X := X) (dvs := []) (ds := []) SC.ox iC tI F1 hr hb .nil hx hg hm (pa_wk ha) hdb he rfl pins s σ H Q I ?_
  refine ⟨_, h, fun vs H1 ⟨v, hv, q⟩ => ?_⟩
  subst hv
  refine ⟨by simp, fun a na => ⟨a, C, v, rfl, upd_same, SC, fun dx nd hne => ⟨rfl, dx, [(fld, v)], upd_same, ?_, ?_, ?_⟩⟩⟩
  · rw [upd_ne hne, upd_same]
  · rw [upd_ne hne] at nd
    exact nd
  · have nd' : H1 dx = none := by
      rw [upd_ne hne] at nd
      exact nd
    have e : upd (del (upd (upd (upd H1 a (exo a C none)) dx (exd dx [(fld, v)])) a (exo a C (some dx))) a) dx (.xd [(fld, v)]) = upd H1 dx (.xd [(fld, v)]) := by
      funext b
      by_cases hb : b = dx
      · rw [hb, upd_same, upd_same]
      · rw [upd_ne hb, upd_ne hb]
        by_cases ha : b = a
        · rw [ha, del_same, na]
        · rw [del_ne ha, upd_ne ha, upd_ne hb, upd_ne ha]
    rw [e]
    exact q dx nd'
end Fx
end

section
set_option Elab.async false
set_option linter.all false
set_option maxRecDepth 100000
set_option maxHeartbeats 2000000
namespace Fx
open PySem PySem.Spec PyProof.Rows L2

/-! ## the repr of nested tuples: some bounded text -/
def RpS (prog : Program) (w : World) (h : Heap) (x : Value) (n d : Nat) : Prop :=
  ∀ (b : Nat) (A : Around) (E : Value → Shared → Prop) (s : Shared) (Q : Str → Shared → Prop), s.heap = h → A.units + d < cLine → b + n ≤ sizeLine → (∀ m tk, m.length ≤ n → Q m { s with toks := tk }) → wpAny (model prog w) A (pyReprUnder b x) Q E s
def sum2 (ns : List Nat) : Nat := (ns.map (· + 2)).sum
theorem sum2_cons (n : Nat) (ns : List Nat) : sum2 (n :: ns) = n + 2 + sum2 ns := by unfold sum2; rw [List.map_cons, List.sum_cons]
section
variable {prog : Program} {w : World} {h : Heap}
theorem RpS.of {x : Value} {t : Str} {n d : Nat} (r : ReprIs prog w x t) (hn : t.length ≤ n) : RpS prog w h x n d := fun b A E s Q _ _ hb q => r b (by omega) A E s Q fun tk => q t tk hn
theorem RpS.mono {x : Value} {n d n' d' : Nat} (r : RpS prog w h x n d) (hn : n ≤ n') (hd : d ≤ d') : RpS prog w h x n' d' := fun b A E s Q e hu hb q => r b A E s Q e (by omega) (by omega) fun m tk hm => q m tk (by omega)
theorem tupFoldS {A : Around} {E : Value → Shared → Prop} {d : Nat} (hu : A.units + d < cLine) : ∀ (l : List Value) (ns : List Nat) (acc : Array Str) (n : Nat) (s : Shared) (Q : (Array Str × Nat) → Shared → Prop), Paired (fun x n => RpS prog w h x n d) l ns → s.heap = h → n + sum2 ns ≤ sizeLine →
    (∀ (ts : List Str) (n' : Nat) tk, ts.length = l.length → piled ts ≤ sum2 ns → Q ⟨acc ++ ts.toArray, n'⟩ { s with toks := tk }) → wpAny (model prog w) A (forIn l (⟨acc, n⟩ : (Array Str × Nat)) tupBody) Q E s := by
  intro l
  induction l with
  | nil =>
    intro ns acc n s Q hT hh hn q
    have h0 := q [] n s.toks rfl (Nat.zero_le _)
    simp only [List.forIn_nil]
    exact wpAny_pure (by simpa using h0)
  | cons x l ih =>
    intro ns acc n s Q hT hh hn q
    cases hT with
    | @cons _ m _ ns hx hl =>
      rw [sum2_cons] at hn
      rw [List.forIn_cons]
      refine wpAny_bind (wpAny_bind (hx (n + 1) A _ s _ hh hu (by omega) fun t tk ht => wpAny_pure ?_))
      refine ih ns (acc.push t) (n + (t.length + 2)) _ Q hl hh (by omega) fun ts n' tk' e1 e2 => ?_
      have h1 := q (t :: ts) n' tk' (by simp [e1]) (by rw [piled_cons, sum2_cons]; omega)
      simpa using h1
theorem reprAtS {A : Around} {E : Value → Shared → Prop} {s : Shared} {a : Addr} {o : Obj} {items : Array Value} {k d b : Nat} {ns : List Nat} {Q : Fin → Shared → Prop} (hu : A.units + d < cLine) (ha : s.heap.get? a = some o) (hd : o.data = .seq items k) (hT : Paired (fun x n => RpS prog w s.heap x n d) items.toList ns)
    (hz : b + (sum2 ns + 5) ≤ sizeLine) (q : ∀ (m : Str) (u tk : Tok), m.length ≤ sum2 ns + 5 → Q (.done (.ret (.str m u))) { s with toks := tk }) : wpAny (model prog w) A (Builtin.tupleReprAt b ⟨[.ref a], []⟩) Q E s := by
  rw [tuple_repr_tree]
  refine wpAny_bind (fmt_underWay fun b => ?_)
  cases b with
  | true =>
    refine PySem.W.KFB.if_so rfl ?_
    refine wpAny_bind (wpAny_rule ?_)
    refine wpAny_bind (wpAny_mkStr (wpAny_pure ?_) (by decide +kernel))
    exact q "(...)" _ _ (Nat.le_trans fmt_way (Nat.le_add_left _ _))
  | false =>
    refine PySem.W.KFB.if_not rfl ?_
    unfold tupleReprRest Builtin.Tuple.tupleItemsOf
    refine wpAny_bind (wpAny_bind (wpAny_seqItems ha hd (wpAny_pure ?_)))
    rw [← Array.forIn_toList]
    refine wpAny_bind (tupFoldS hu _ ns _ _ _ _ hT rfl (by omega) fun ts n' tk e1 e2 => ?_)
    have hlen : ts.length = items.size := by simpa using e1
    have ht := fmt_text ts
    refine wpAny_bind (wpAny_mkStr (wpAny_pure ?_) (by
      have : (tupleText ts).length ≤ sizeLine := by omega
      simpa [tupleText, hlen] using this))
    have h1 := q (tupleText ts) tk (tk + 1) (by omega)
    simpa [tupleText, hlen] using h1
theorem rps_tuple {a : Addr} {o : Obj} {items : Array Value} {k d : Nat} {ns : List Nat} (ha : h.get? a = some o) (hc : o.cls = .type "tuple") (hd : o.data = .seq items k) (hT : Paired (fun x n => RpS prog w h x n d) items.toList ns) : RpS prog w h (.ref a) (sum2 ns + 5) (d + 1) := by
  intro b A E s Q hh hu hb q
  subst hh
  have hTy : s.TypeIs (.ref a) "tuple" := ⟨o, ha, hc⟩
  refine wpAny_pyReprUnder_ref (by omega) (wpAny_pyReprObjUnder_twin (twin := "tuple.__repr__.under") hTy F.slot_tuple_repr rfl (by omega) (call_twin_own (F.quiet_tuple_repr_under _) F.entry_tuple_repr_under F.check_tuple_repr_under hTy F.slot_tuple_repr (F.args_tuple_repr_1 _) (wpOwn_of_wpAny ?_)))
  refine reprAtS (d := d) (by rw [units_under_tuple_repr_under]; omega) ha hd hT hb fun m u tk hm => ?_
  exact ⟨⟨m, u, rfl⟩, m, u, rfl, q m tk hm⟩
/-- tuple.__repr__ itself -/
theorem call_reprS {A : Around} {E : Value → Shared → Prop} {s : Shared} {a : Addr} {o : Obj} {items : Array Value} {k d : Nat} {ns : List Nat} {Q : Value → Shared → Prop} (hu : A.units + (d + 1) < cLine) (ha : s.heap.get? a = some o) (hc : o.cls = .type "tuple") (hd : o.data = .seq items k) (hT : Paired (fun x n => RpS prog w s.heap x n d) items.toList ns)
    (hz : sum2 ns + 5 ≤ sizeLine) (q : ∀ (m : Str) (u tk : Tok), m.length ≤ sum2 ns + 5 → Q (.str m u) { s with toks := tk }) : wpAny (model prog w) A (call (.builtin "tuple.__repr__") [.ref a]) Q E s := by
  refine wpAny_call (codeAny_call_builtin_own (Code.quiet_builtin _ (by decide +kernel)) F.entry_tuple_repr (F.slot_tuple_repr.check _ _ _ _ _ _ _ _ ⟨o, ha, hc⟩ (F.args_tuple_repr_1 _) (wpOwn_of_wpAny ?_)))
  refine reprAtS (b := 0) (d := d) (by rw [units_under_tuple_repr]; omega) ha hd hT (by omega) fun m u tk hm => q m u tk hm
theorem str_of_tupS {A : Around} {E : Value → Shared → Prop} {s : Shared} {a : Addr} {o : Obj} {items : Array Value} {k d : Nat} {ns : List Nat} {Q : Value → Shared → Prop} (hu : A.units + (d + 6) < cLine) (ha : s.heap.get? a = some o) (hc : o.cls = .type "tuple") (hd : o.data = .seq items k) (hT : Paired (fun x n => ∀ prog w, RpS prog w s.heap x n d) items.toList ns)
    (hz : sum2 ns + 5 ≤ sizeLine) (q : ∀ (m : Str) (u tk : Tok), m.length ≤ sum2 ns + 5 → Q (.str m u) { s with toks := tk }) : wpAny (model prog w) A (call (.type "str") [.ref a]) Q E s :=
  callType_new F.called_str (by decide) (F.typeCall_str_1 _) (F.newCall_str_1 _) (fun obj => F.args_object_init_2 obj _) F.entry_str_new
    (meets_str_new (S := fun A' R s' => A'.units + (d + 5) < cLine ∧ s'.heap = s.heap ∧ ∀ (m : Str) (u tk : Tok), m.length ≤ sum2 ns + 5 → R (.ok (.ret (.str m u))) { s' with toks := tk })
      fun prog' w' A' R s' hs => wpAny_strOf_slot rfl (by have := hs.1; show A'.units + 1 + 1 < cLine; omega) ⟨o, by rw [hs.2.1]; exact ha, hc⟩ F.slot_tuple_str F.slot_tuple_repr
        (call_reprS (d := d) (by have := hs.1; show A'.units + 1 + 1 + (d + 1) < cLine; omega) (by rw [hs.2.1]; exact ha) hc hd (Paired.mapP hT fun x n r => by rw [hs.2.1]; exact r prog' w') hz fun m u tk hm => ⟨m, u, rfl, hs.2.2 m u tk hm⟩))
    ⟨by show A.units + 1 + (d + 5) < cLine; omega, rfl, fun m u tk hm => ⟨typeIs_str _ _ _, q m u tk hm⟩⟩
end

/-! ## str(x) -/
mutual
inductive ShV (K : PySem.W.Frag) (H : Hp) : V → Nat → Nat → Prop
  | non {d : Nat} : ShV K H .non 4 d
  | bl {b : Bool} {d : Nat} : ShV K H (.bl b) 5 d
  | int {i : Int} {d : Nat} : i.natAbs.log2 < 1920 → (toString i : Str).length ≤ 10000 → ShV K H (.int i) (toString i : Str).length d
  | str {x : Str} {d : Nat} : (∀ c ∈ x.cps.toList, c < 16 ^ 8) → x.length ≤ 1000000 → ShV K H (.str x) (10 * x.length + 2) d
  | tup {a : Addr} {vs : List V} {ns : List Nat} {d : Nat} : SqT K H a vs → ShVs K H vs ns d → ShV K H (.ref a) (sum2 ns + 5) (d + 1)
inductive ShVs (K : PySem.W.Frag) (H : Hp) : List V → List Nat → Nat → Prop
  | nil {d : Nat} : ShVs K H [] [] d
  | cons {v : V} {vs : List V} {n : Nat} {ns : List Nat} {d : Nat} : ShV K H v n d → ShVs K H vs ns d → ShVs K H (v :: vs) (n :: ns) d
end
section
variable {X : Cx} {pins : List (Addr × Obj)} {σ : L2.St} {H : Hp} {s : Shared}
mutual
theorem shV_rps (I : Inv X pins σ H s) : ∀ {v : V} {u : Value} {n d : Nat}, ShV X.K H v n d → L2.RelV v u → ∀ prog w, RpS prog w s.heap u n d
  | _, _, _, _, .non, r, prog, w => by cases (show _ = Value.none from r); exact RpS.of ReprIs.none (by decide +kernel)
  | _, _, _, _, .bl (b := b), r, prog, w => by cases (show _ = Value.bool b from r); exact RpS.of (ReprIs.bool b) (by cases b <;> decide +kernel)
  | _, _, _, _, .int (i := i) h hz, r, prog, w => by obtain ⟨t, q⟩ := (show ∃ t, _ = Value.int i t from r); cases q; exact RpS.of (ReprIs.int t h) (Nat.le_refl _)
  | _, _, _, _, .str (x := x) h hz, r, prog, w => by
    obtain ⟨t, q⟩ := (show ∃ t, _ = Value.str x t from r)
    cases q
    have hl := StrLaws.reprText_len x h
    exact RpS.of (ReprIs.str x t (by rw [sizeLine_eq]; omega)) hl
  | _, _, _, _, .tup (a := a) ht hs, r, prog, w => by
    cases (show _ = Value.ref a from r)
    obtain ⟨its, rv, ⟨o, ho, hcl, n, hd⟩, _⟩ := I.tuple ht
    exact rps_tuple ho hcl hd (shVs_rps I hs rv prog w)
theorem shVs_rps (I : Inv X pins σ H s) : ∀ {vs : List V} {us : List Value} {ns : List Nat} {d : Nat}, ShVs X.K H vs ns d → Vals vs us → ∀ prog w, Paired (fun x n => RpS prog w s.heap x n d) us ns
  | _, _, _, _, .nil, .nil, _, _ => .nil
  | _, _, _, _, .cons h hs, .cons r rs, prog, w => .cons (shV_rps I h r prog w) (shVs_rps I hs rs prog w)
end
theorem paired_all {α β : Type} {P : Program → World → α → β → Prop} : ∀ {xs : List α} {ys : List β}, xs.length = ys.length → (∀ p w, Paired (P p w) xs ys) → Paired (fun x y => ∀ p w, P p w x y) xs ys
  | [], [], _, _ => .nil
  | x :: xs, y :: ys, hl, h => .cons (fun p w => by cases h p w with | cons a _ => exact a) (paired_all (by simpa using hl) fun p w => by cases h p w with | cons _ b => exact b)
  | [], _ :: _, hl, _ => by simp at hl
  | _ :: _, [], hl, _ => by simp at hl
theorem call_strA {k : Nat} (hr : Room k X.A) : CallR X (.type "str") (fun xs H Q => ((∃ i, xs = [.int i] ∧ i.natAbs.log2 < 1920 ∧ Q (.str (toString i)) H) ∨ (∃ a, xs = [.str a] ∧ Q (.str a) H)) ∨
    (∃ a vs ns d, xs = [.ref a] ∧ SqT X.K H a vs ∧ ShVs X.K H vs ns d ∧ vs.length = ns.length ∧ d ≤ 150 ∧ sum2 ns + 5 ≤ sizeLine ∧ ∀ m : Str, m.length ≤ sum2 ns + 5 → Q (.str m) H)) := by
  refine CallR.or (CallR.or call_str_int SkE.call_str_str) ?_
  intro pins s σ H xs us Q I r h
  obtain ⟨a, vs, ns, d, rfl, ht, hs, hl, hd, hz, q⟩ := h
  obtain ⟨u, rfl, r1⟩ := Vals.one r
  cases (show u = Value.ref a from r1)
  obtain ⟨its, rv, ⟨o, ho, hcl, n, hdd⟩, _⟩ := I.tuple ht
  have hu := hr.un
  refine str_of_tupS (d := d) (ns := ns) (by omega) ho hcl hdd ?_ hz fun m u tk hm => ⟨.str m, H, I.tok _, ⟨u, rfl⟩, q m hm⟩
  have e : its.length = ns.length := by rw [← rv.length]; exact hl
  exact paired_all (P := fun p w x n => RpS p w s.heap x n d) e (shVs_rps I hs rv)
end
mutual
def shD (d : Nat) : D → Option Nat
  | .non => some 4
  | .bl _ => some 5
  | .int i => if i.natAbs.log2 < 1920 ∧ (toString i : Str).length ≤ 10000 then some (toString i : Str).length else none
  | .str x => if (x.cps.toList.all fun c => decide (c < 16 ^ 8)) = true ∧ x.length ≤ 1000000 then some (10 * x.length + 2) else none
  | .tup xs => match d with
    | 0 => none
    | d + 1 => (shDs d xs).map fun ns => sum2 ns + 5
  | _ => none
def shDs (d : Nat) : List D → Option (List Nat)
  | [] => some []
  | x :: xs => (shD d x).bind fun n => (shDs d xs).map fun ns => n :: ns
end
mutual
theorem shD_ok {K : PySem.W.Frag} {w : Wd} {S : Sto} (o : w.Ok K S) : ∀ {d : Nat} {v : V} {x : D} {n : Nat}, Rep K w.r w.F v x → shD d x = some n → ShV K w.H v n d
  | _, _, _, _, .non, e => by rw [shD] at e; cases e; exact .non
  | _, _, _, _, .bl b, e => by rw [shD] at e; cases e; exact .bl
  | _, _, _, _, .int i, e => by
    rw [shD] at e
    split at e
    · rename_i h
      cases e
      exact .int h.1 h.2
    · cases e
  | _, _, _, _, .str x, e => by
    rw [shD] at e
    split at e
    · rename_i h
      cases e
      exact .str (fun c hc => of_decide_eq_true (List.all_eq_true.mp h.1 c hc)) h.2
    · cases e
  | 0, _, _, _, .tup h hs, e => by rw [shD] at e; cases e
  | d + 1, _, _, _, .tup h hs, e => by
    rw [shD] at e
    obtain ⟨ns, e1, e2⟩ := Option.map_eq_some_iff.mp e
    subst e2
    exact .tup (sqT_sub o.sub h) (shDs_ok o hs e1)
  | _, _, _, _, .lst _ _, e => by rw [shD] at e <;> first | cases e | simp
  | _, _, _, _, .fz _ _, e => by rw [shD] at e <;> first | cases e | simp
  | _, _, _, _, .ref _, e => by rw [shD] at e <;> first | cases e | simp
  | _, _, _, _, .opq _, e => by rw [shD] at e <;> first | cases e | simp
  | _, _, _, _, .adr _, e => by rw [shD] at e <;> first | cases e | simp
  | _, _, _, _, .dct _ _ _ _, e => by rw [shD] at e <;> first | cases e | simp
theorem shDs_ok {K : PySem.W.Frag} {w : Wd} {S : Sto} (o : w.Ok K S) : ∀ {d : Nat} {vs : List V} {xs : List D} {ns : List Nat}, Reps K w.r w.F vs xs → shDs d xs = some ns → ShVs K w.H vs ns d
  | _, _, _, _, .nil, e => by rw [shDs] at e; cases e; exact .nil
  | _, _, _, _, .cons h hs, e => by
    rw [shDs] at e
    obtain ⟨n, e1, e2⟩ := Option.bind_eq_some_iff.mp e
    obtain ⟨ns, e3, e4⟩ := Option.map_eq_some_iff.mp e2
    subst e4
    exact .cons (shD_ok o h e1) (shDs_ok o hs e3)
end
theorem shVs_len {K : PySem.W.Frag} {H : Hp} : ∀ {vs : List V} {ns : List Nat} {d : Nat}, ShVs K H vs ns d → vs.length = ns.length
  | _, _, _, .nil => rfl
  | _, _, _, .cons _ h => congrArg (· + 1) (shVs_len h)
def fStr : Fn := fun ds S => match ds with
  | [.int i] => if i.natAbs.log2 < 1920 then .ok (.str (toString i)) S else .bad
  | [.str x] => .ok (.str x) S
  | [.opq n] => .ok (.opq n) S
  | [.tup xs] => match shDs 100 xs with
    | some ns => if sum2 ns + 5 ≤ big then .ok (.opq (sum2 ns + 5)) S else .bad
    | none => .bad
  | _ => .bad
section
variable {X : Cx} {B : Bs} {W : WX} {e : Expr} {es : List Expr} {p pos : Pos} {mA : Ad}
theorem so_str {K : PySem.W.Frag} : SoC K (fun xs H Q => ((∃ i, xs = [.int i] ∧ i.natAbs.log2 < 1920 ∧ Q (.str (toString i)) H) ∨ (∃ a, xs = [.str a] ∧ Q (.str a) H)) ∨
    (∃ a vs ns d, xs = [.ref a] ∧ SqT K H a vs ∧ ShVs K H vs ns d ∧ vs.length = ns.length ∧ d ≤ 150 ∧ sum2 ns + 5 ≤ sizeLine ∧ ∀ m : Str, m.length ≤ sum2 ns + 5 → Q (.str m) H)) fStr := by
  intro W w σ S xs ds Q o rs h
  cases rs with
  | nil => exact h.elim
  | @cons v vs d ds r rs =>
    cases rs with
    | cons _ _ => cases d <;> exact h.elim
    | nil =>
      cases r with
      | int i =>
        unfold fStr at h
        dsimp only at h
        split at h
        · rename_i hz
          exact .inl (.inl ⟨i, rfl, hz, h.now o (.str _)⟩)
        · exact h.elim
      | str x => exact .inl (.inr ⟨x, rfl, h.now o (.str _)⟩)
      | @opq x n hn => exact .inl (.inr ⟨x, rfl, h.now o (.opq hn)⟩)
      | @tup a vs xs h1 h2 =>
        unfold fStr at h
        dsimp only at h
        cases e : shDs 100 xs with
        | none => rw [e] at h; exact h.elim
        | some ns =>
          rw [e] at h
          dsimp only at h
          split at h
          · rename_i hz
            have hs := shDs_ok o h2 e
            exact .inr ⟨a, vs, ns, 100, rfl, sqT_sub o.sub h1, hs, shVs_len hs, by decide, big_le hz, fun m hm => h.now o (.opq hm)⟩
          · exact h.elim
      | _ => exact h.elim
theorem tr_strc {k : Nat} (hr : Room k X.A) (hm : X.mg "str" = none) (ha : TrA X B W (e :: es) mA) (hg : Gl X "str" := by rfl) (he : starEach (e :: es) X.env = (false, eval e X.env) :: starEach es X.env := by rfl) (hpl : (backTo pos (starEach es X.env)).any (·.1) = false := by rfl) :
    Tr X B W (.Call (.Name "str" p) (e :: es) [] pos) (mBlt fStr mA) := tr_blty (call_strA hr) so_str hm (by decide +kernel) ha hg (by decide) (by decide) he hpl
end
end Fx
end

section
set_option Elab.async false
set_option linter.all false
set_option maxRecDepth 100000
set_option maxHeartbeats 2000000
namespace Fx
open PySem PySem.Spec PyProof.Rows L2
section
variable {X : Cx} {B : Bs} {W : WX} {o e : Expr} {es : List Expr} {p apos pos : Pos} {mo me : Ed} {mA : Ad}

/-! ## o.append(e), o.pop(), s.join(e) -/
def isM (S : Sto) (n : Nat) : Bool := match S[n]? with | some (.lst _) => true | _ => false
def mAppend (o e : Ed) : Ed := fun Γ S => (o Γ S).bind fun x S1 => match x with
  | .ref n => if isM S1 n = true then (e Γ S1).bind fun y S2 => match S2[n]? with
    | some (.lst xs) => if xs.length < big then .ok .non (S2.set n (.lst (xs ++ [y]))) else .bad
    | _ => .bad else .bad
  | _ => .bad
theorem isM_at {K : PySem.W.Frag} {w : Wd} {S : Sto} (o : w.Ok K S) {a : Addr} {n : Nat} (h : w.r[n]? = some a) (e : isM S n = true) : ∃ vs, w.H a = some (.lst vs) := by
  unfold isM at e
  split at e
  · rename_i xs hx
    obtain ⟨vs, h1, _⟩ := o.obj n _ a hx h
    exact ⟨vs, h1⟩
  · cases e
theorem tr_append (ho : Tr X B W o mo) (he : Tr X B W e me) (hbase : attributeBase o "append" X.env (eval o X.env) = eval o X.env := by rfl)
    (hfew : ((backTo pos (starEach [e] X.env)).all (fun x => !x.1) && (backToKw pos (keywordEach [] X.env)).all (fun x => x.1.isSome)
      && decide (([e] : List Expr).length + ([] : List Keyword).length + (if ([] : List Keyword).isEmpty then 0 else 1) < 30)) = true := by rfl)
    (hline : (apos.endLine == pos.line) = true := by rfl) (hs : starEach [e] X.env = (false, eval e X.env) :: starEach [] X.env := by rfl) :
    Tr X B W (.Call (.Attribute o "append" apos) [e] [] pos) (mAppend mo me) := by
  refine imE (pe_bm F.plainAttrs_list F.slot_list_append F.type_list_append mt_append ho (pa_cons he pa_nil hs) hbase hfew hline hs rfl) fun σ H Q h => ?_
  obtain ⟨r0, F0, Γ, S, oo, g, q⟩ := h
  refine ⟨r0, F0, Γ, S, oo, g, PoE.bindE q fun d S1 w1 v _ t1 o1 rp1 q1 => ?_⟩
  cases rp1 with
  | @ref a n hn =>
    dsimp only at q1
    split at q1
    · rename_i hm
      obtain ⟨vs0, hv0⟩ := isM_at o1 hn hm
      refine ⟨.inl ⟨rfl, vs0, .of hv0⟩, w1.r, w1.F, Γ, S1, o1, g.step t1, PoE.bindE q1 fun d2 S2 w2 v2 _ t2 o2 rp2 q2 => ?_⟩
      split at q2
      · rename_i xs hx
        split at q2
        · rename_i hz
          obtain ⟨vs, h1, h2⟩ := o2.obj n _ a hx (pre_get t2.pre hn)
          have hb : xs.length < big := hz
          refine ⟨a, vs, v2, rfl, rfl, h1, big_lt (by rw [h2.len]; exact hb), ?_⟩
          obtain ⟨o3, t3⟩ := o2.put (u := .lst (vs ++ [v2])) (x := .lst (xs ++ [d2])) hx (by simp) (pre_get t2.pre hn) ⟨_, upd_same, h2.app (.cons rp2 .nil)⟩
          exact q2 _ _ t3 o3 .non
        · exact q2.elim
      · exact q2.elim
    · exact q1.elim
  | _ => exact q1.elim
def mPop (o : Ed) : Ed := fun Γ S => (o Γ S).bind fun x S1 => match x with
  | .ref n => match S1[n]? with
    | some (.lst xs) => match xs[xs.length - 1]? with
      | some y => .ok y (S1.set n (.lst xs.dropLast))
      | none => .bad
    | _ => .bad
  | _ => .bad
theorem tr_pop (ho : Tr X B W o mo) (hbase : attributeBase o "pop" X.env (eval o X.env) = eval o X.env := by rfl) (hline : (apos.endLine == pos.line) = true := by rfl) :
    Tr X B W (.Call (.Attribute o "pop" apos) [] [] pos) (mPop mo) := by
  refine imE (pe_bm0 F.plainAttrs_list F.slot_list_pop F.type_list_pop mt_pop ho hbase hline) fun σ H Q h => ?_
  obtain ⟨r0, F0, Γ, S, oo, g, q⟩ := h
  refine ⟨r0, F0, Γ, S, oo, g, PoE.bindE q fun d S1 w1 v _ t1 o1 rp1 q1 => ?_⟩
  cases rp1 with
  | @ref a n hn =>
    dsimp only at q1
    split at q1
    · rename_i xs hx
      split at q1
      · rename_i y hy
        obtain ⟨vs, h1, h2⟩ := o1.obj n _ a hx hn
        obtain ⟨v, hv, rv⟩ := h2.get hy
        refine ⟨.inl ⟨rfl, vs, .of h1⟩, a, vs, v, rfl, rfl, h1, by rw [h2.len]; exact hv, ?_⟩
        obtain ⟨o3, t3⟩ := o1.put (u := .lst vs.dropLast) (x := .lst xs.dropLast) hx (by simp) hn ⟨_, upd_same, h2.dropLast⟩
        exact q1 _ _ t3 o3 rv
      · exact q1.elim
    · exact q1.elim
  | _ => exact q1.elim
/-- the texts of a list -/
def strsD : List D → Option (List Str)
  | [] => some []
  | .str x :: r => (strsD r).map fun l => x :: l
  | _ => none
theorem strsD_ok {K : PySem.W.Frag} {r : List Addr} {F : Hp} : ∀ {vs : List V} {ds : List D} {l : List Str}, Reps K r F vs ds → strsD ds = some l → vs = l.map V.str
  | _, _, _, .nil, e => by cases e; rfl
  | _, _, _, .cons (.str x) hs, e => by
    unfold strsD at e
    obtain ⟨l, e1, e2⟩ := Option.map_eq_some_iff.mp e
    subst e2
    rw [strsD_ok hs e1]
    rfl
  | _, _, _, .cons .non _, e => by cases e
  | _, _, _, .cons (.bl _) _, e => by cases e
  | _, _, _, .cons (.int _) _, e => by cases e
  | _, _, _, .cons (.tup _ _) _, e => by cases e
  | _, _, _, .cons (.lst _ _) _, e => by cases e
  | _, _, _, .cons (.fz _ _) _, e => by cases e
  | _, _, _, .cons (.ref _) _, e => by cases e
  | _, _, _, .cons (.opq _) _, e => by cases e
  | _, _, _, .cons (.adr _) _, e => by cases e
  | _, _, _, .cons (.dct _ _ _ _) _, e => by cases e
def dJoin (x y : D) (S : Sto) : Res D := match x with
  | .str a => match dSq S y with
    | some ys => match strsD ys with
      | some l => if (l.map (·.length)).sum + l.length * a.length ≤ big then .ok (.str (Txt.join a l)) S else .bad
      | none => .bad
    | none => .bad
  | _ => .bad
def isStr : D → Bool
  | .str _ => true
  | _ => false
def mJoin (o e : Ed) : Ed := fun Γ S => (o Γ S).bind fun x S1 => if isStr x = true then (e Γ S1).bind fun y S2 => dJoin x y S2 else .bad
theorem tr_join (ho : Tr X B W o mo) (he : Tr X B W e me) (hs : starEach [e] X.env = [(false, eval e X.env)] := by rfl) (hbase : attributeBase o "join" X.env (eval o X.env) = eval o X.env := by rfl) (hline : (apos.endLine == pos.line) = true := by rfl) :
    Tr X B W (.Call (.Attribute o "join" apos) [e] [] pos) (mJoin mo me) := by
  refine imE (pe_join ho he hs hbase hline) fun σ H Q h => ?_
  obtain ⟨r0, F0, Γ, S, oo, g, q⟩ := h
  refine ⟨r0, F0, Γ, S, oo, g, PoE.bindE q fun d S1 w1 v _ t1 o1 rp1 q1 => ?_⟩
  split at q1
  · cases rp1 with
    | str a =>
      refine ⟨⟨a, rfl⟩, w1.r, w1.F, Γ, S1, o1, g.step t1, PoE.bindE q1 fun d2 S2 w2 v2 _ t2 o2 rp2 q2 => ?_⟩
      unfold dJoin at q2
      dsimp only at q2
      cases e1 : dSq S2 d2 with
      | none => rw [e1] at q2; exact q2.elim
      | some ys =>
        rw [e1] at q2
        dsimp only at q2
        cases e2 : strsD ys with
        | none => rw [e2] at q2; exact q2.elim
        | some l =>
          rw [e2] at q2
          dsimp only at q2
          split at q2
          · rename_i hz
            obtain ⟨p, vs, rfl, hp, hvs⟩ := dSq_at o2 rp2 e1
            have e3 := strsD_ok hvs e2
            subst e3
            exact ⟨a, p, l, rfl, rfl, hp.symm, Nat.le_trans hz (by decide), q2.now o2 (.str _)⟩
          · exact q2.elim
    | _ => rename_i hh; cases hh
  · exact q1.elim

/-! ## a written dict's value, a dict display's .get -/
theorem tr_gref {x : Str} {a : Addr} (hm : X.mg x = some (.ref a)) (hg : Gl X x := by rfl) (hd : (x == ("__debug__" : Str)) = false := by decide) : Tr X B W (.Name x pos) (mC (.adr a)) := trC (pe_glob (v := V.ref a) hg hm rfl hd) fun _ _ => .adr a
def dKd (a : Addr) (tab : List (Str × Str)) (x y : D) (S : Sto) : Res D := match x, y with
  | .adr b, .str z => if b = a then match tab.lookup z with
    | some v => .ok (.str v) S
    | none => .bad else .bad
  | _, _ => .bad
theorem so_kd {a : Addr} {tab : List (Str × Str)} (hT : ∀ z v, tab.lookup z = some v → KDct X.K X.w a z (.str v)) : SoR X.K (rIxD X.K X.w) (dKd a tab) := by
  intro W w σ S x y d e Q o rx ry h
  cases rx with
  | adr b =>
    cases ry with
    | str z =>
      unfold dKd at h
      dsimp only at h
      split at h
      · rename_i hb
        subst hb
        cases el : tab.lookup z with
        | none => rw [el] at h; exact h.elim
        | some v => rw [el] at h; exact ⟨b, z, .str v, rfl, rfl, hT z v el, h.now o (.str _)⟩
      · exact h.elim
    | _ => exact h.elim
  | _ => cases ry <;> exact h.elim
theorem tr_kd {a : Addr} {tab : List (Str × Str)} (hT : ∀ z v, tab.lookup z = some v → KDct X.K X.w a z (.str v)) (ho : Tr X B W o mo) (he : Tr X B W e me) (hs : PlainIx e := by exact fun _ _ => rfl) : Tr X B W (.Subscript o e pos) (mOp (dKd a tab) mo me) :=
  imE (pe_ix ix_kdict ho he hs) fun σ H Q h => so_op (so_kd hT) h

/-- the values of a display with constant keys -/
def TrP (X : Cx) (B : Bs) (W : WX) (pos : Pos) (keys : List (Option Expr)) (values : List Expr) (ks : List Key) (m : Ad) : Prop :=
  ∃ trs, PPs X pos keys values trs ∧ ∀ σ H Q, cA X.K B W m σ H (fun vs H2 => ks.length = vs.length → Q ((ks.zip vs).map fun kv => (kV kv.1, kv.2)) H2) → tPairs trs σ H Q
theorem tp_nil : TrP X B W pos [] [] [] aNil := ⟨[], pps_nil, fun σ H Q h => by
  obtain ⟨r0, F0, Γ, S, oo, g, q⟩ := h
  exact q _ _ (Step.refl _) oo .nil rfl⟩
theorem tp_cons {k v : Expr} {keys : List (Option Expr)} {values : List Expr} {ks : List Key} {key : Key} {mv : Ed} {m : Ad} (hk : PE X k (tC (kV key))) (hv : Tr X B W v mv) (hr : TrP X B W pos keys values ks m) : TrP X B W pos (some k :: keys) (v :: values) (key :: ks) (aCons mv m) := by
  obtain ⟨trs, h1, h2⟩ := hr
  refine ⟨(tC (kV key), cE X.K B W mv) :: trs, pps_cons hk hv h1, fun σ H Q h => ?_⟩
  obtain ⟨r0, F0, Γ, S, oo, g, q⟩ := h
  show cE X.K B W mv σ H _
  refine ⟨r0, F0, Γ, S, oo, g, PoA.bindE q fun d S1 w1 v _ t1 o1 rp1 q1 => ?_⟩
  refine h2 _ _ _ ⟨w1.r, w1.F, Γ, S1, o1, g.step t1, PoA.bindA q1 fun ds S2 w2 vs _ t2 o2 rp2 q2 hl => ?_⟩
  exact q2 w2 (v :: vs) (Step.refl _) o2 (.cons (rp1.up t2.pre t2.sub) rp2) (by rw [List.length_cons, List.length_cons, hl])
def mDct (ks : List Key) (m : Ad) : Ed := fun Γ S => (m Γ S).bind fun ds S1 => if ks.length = ds.length ∧ ks.Nodup ∧ ks.length ≤ 15 then .ok (.dct ks ds) S1 else .bad
theorem mergeK_nodup : ∀ (l acc : List (Key × V)), (l.map (·.1)).Nodup → (∀ k ∈ l.map (·.1), k ∉ acc.map (·.1)) → mergeK acc l = acc ++ l
  | [], acc, _, _ => by show acc = acc ++ []; rw [List.append_nil]
  | p :: l, acc, nd, h => by
    show mergeK (putK acc p.1 p.2) l = _
    have e : putK acc p.1 p.2 = acc ++ [p] := by
      unfold putK
      have hn : (acc.any fun kv => decide (kv.1 = p.1)) = false := by
        rw [List.any_eq_false]
        intro kv hkv he
        exact h p.1 (by simp) (by rw [← of_decide_eq_true he]; exact List.mem_map_of_mem hkv)
      rw [hn]
      rfl
    rw [e, mergeK_nodup l (acc ++ [p]) (List.nodup_cons.mp nd).2 (fun k hk hm => ?_)]
    · simp
    · rw [List.map_append, List.mem_append] at hm
      rcases hm with hm | hm
      · exact h k (by simp only [List.map_cons, List.mem_cons]; exact .inr hk) hm
      · have : k = p.1 := by simpa using hm
        subst this
        exact (List.nodup_cons.mp nd).1 hk
theorem tr_dct {keys : List (Option Expr)} {values : List Expr} {ks : List Key} {m : Ad} (h : TrP X B W pos keys values ks m) (hall : keys.all (·.isSome) = true := by rfl) (hl : keys.length = values.length := by rfl) (h0 : keys ≠ [] := by simp) (h15 : keys.length ≤ 15 := by decide) :
    Tr X B W (.Dict keys values pos) (mDct ks m) := by
  obtain ⟨trs, h1, h2⟩ := h
  refine imE (pe_disp h1 hall hl h0 h15) fun σ H Q h => ?_
  obtain ⟨r0, F0, Γ, S, oo, g, q⟩ := h
  intro p hp
  obtain ⟨o1, st⟩ := oo.side (u := .dK []) (.inl hp)
  have t1 := st hp
  have side : ∀ {w2 : Wd}, Step ⟨r0, F0, upd H p (.dK [])⟩ w2 → w2.H p = some (.dK []) ∧ p ∉ w2.r ∧ w2.F p = none := fun {w2} t2 => by
    have hr : p ∉ r0 := oo.notin hp
    refine ⟨t2.frame p _ upd_same hr, fun hm => ?_, ?_⟩
    · rcases t2.newr p hm with z | z
      · exact hr z
      · have z : upd H p (.dK []) p = none := z
        rw [upd_same] at z
        cases z
    · cases e : w2.F p with
      | none => rfl
      | some x =>
        rcases t2.newF p (by rw [e]; simp) with z | z | z
        · exact absurd (oo.noF hp) z
        · have z : upd H p (.dK []) p = none := z
          rw [upd_same] at z
          cases z
        · exact absurd z hr
  refine h2 _ _ _ ⟨r0, F0, Γ, S, o1, g.step t1, PoE.bindA (PoE.step t1 q) fun ds S2 w2 vs er t2 o2 rp2 _ hlen => ?_⟩
  have q2 : PoE X.K W ⟨r0, F0, H⟩ σ (if ks.length = ds.length ∧ ks.Nodup ∧ ks.length ≤ 15 then .ok (.dct ks ds) S2 else .bad) Q := by
    have q' := q
    unfold mDct at q'
    rw [er] at q'
    exact q'
  split at q2
  · rename_i hc
    obtain ⟨hp2, hr2, hF2⟩ := side t2
    refine ⟨hp2, ks.zip vs, rfl, by rw [List.length_zip]; have := hc.2.2; omega, ?_⟩
    have hm : mergeK [] (ks.zip vs) = ks.zip vs := by
      rw [mergeK_nodup _ [] ?_ (fun k _ hk => by simp at hk), List.nil_append]
      rw [List.map_fst_zip (by omega)]
      exact hc.2.1
    rw [hm]
    obtain ⟨o3, t3, s3⟩ := o2.takeF (u := .dK (ks.zip vs)) (t1.trans t2) hp hr2 hF2
    exact q2 _ _ t3 o3 (.dct upd_same rfl (by omega) (rp2.up (List.prefix_refl _) s3))
  · exact q2.elim
/-- d.get(k, z) -/
def keyOf : D → Option Key
  | .int i => some (Sum.inl i)
  | .str x => some (Sum.inr x)
  | _ => none
def lookK : List Key → List D → Key → Option D
  | k :: ks, d :: ds, j => if k = j then some d else lookK ks ds j
  | _, _, _ => none
def isDct : D → Bool
  | .dct _ _ => true
  | _ => false
def dDg (x y z : D) (S : Sto) : Res D := match x with
  | .dct ks ds => match keyOf y with
    | some k => .ok ((lookK ks ds k).getD z) S
    | none => .bad
  | _ => .bad
def mDget2 (o e f : Ed) : Ed := fun Γ S => (o Γ S).bind fun x S1 => if isDct x = true then (e Γ S1).bind fun y S2 => (f Γ S2).bind fun z S3 => dDg x y z S3 else .bad
theorem lookK_ok {K : PySem.W.Frag} {r : List Addr} {F : Hp} : ∀ {ks : List Key} {vs : List V} {ds : List D} (k : Key), ks.length = vs.length → Reps K r F vs ds → (lookK ks ds k = none ∧ valV (ks.zip vs) k = none) ∨ ∃ d v, lookK ks ds k = some d ∧ valV (ks.zip vs) k = some v ∧ Rep K r F v d
  | [], [], _, _, _, .nil => .inl ⟨rfl, rfl⟩
  | j :: ks, v :: vs, d :: ds, k, hl, .cons h hs => by
    rw [List.zip_cons_cons]
    by_cases hj : j = k
    · right
      exact ⟨d, v, by simp [lookK, hj], valV_pos hj, h⟩
    · rw [valV_neg (show ¬ (j, v).1 = k from hj)]
      have e : lookK (j :: ks) (d :: ds) k = lookK ks ds k := by simp [lookK, hj]
      rw [e]
      exact lookK_ok k (by simpa using hl) hs
  | [], _ :: _, _, _, hl, _ => by simp at hl
  | _ :: _, [], _, _, hl, _ => by simp at hl
theorem tr_dget2 {f : Expr} {mf : Ed} {k : Nat} (hr : Room k X.A) (ho : Tr X B W o mo) (he : Tr X B W e me) (hf : Tr X B W f mf) (m : M2 X o "get" apos e f pos := by exact ⟨rfl, rfl, rfl, rfl⟩) :
    Tr X B W (.Call (.Attribute o "get" apos) [e, f] [] pos) (mDget2 mo me mf) := by
  refine imE (pe_dget2 (by have := hr.un; omega) ho he hf m) fun σ H Q h => ?_
  obtain ⟨r0, F0, Γ, S, oo, g, q⟩ := h
  refine ⟨r0, F0, Γ, S, oo, g, PoE.bindE q fun d S1 w1 v _ t1 o1 rp1 q1 => ?_⟩
  split at q1
  · cases rp1 with
    | @dct a kvs ks vs ds hF ek hl hs =>
      refine ⟨a, rfl, .inl ⟨kvs, .inl (o1.sub _ _ hF)⟩, w1.r, w1.F, Γ, S1, o1, g.step t1, PoE.bindE q1 fun d2 S2 w2 v2 _ t2 o2 rp2 q2 => ?_⟩
      refine ⟨w2.r, w2.F, Γ, S2, o2, (g.step t1).step t2, PoE.bindE q2 fun d3 S3 w3 v3 _ t3 o3 rp3 q3 => ?_⟩
      unfold dDg at q3
      dsimp only at q3
      have fin : ∀ k : Key, v2 = kV k → PoE X.K W w3 σ (.ok ((lookK ks ds k).getD d3) S3) Q → ∃ oo, DGet w3.H a v2 oo ∧ Q (oo.getD v3) w3.H := fun k ek2 q3 => by
        subst ek2
        have hH : w3.H a = some (.dK kvs) := o3.sub _ _ (t3.sub _ _ (t2.sub _ _ hF))
        refine ⟨valV kvs k, DGet.k hH, ?_⟩
        subst ek
        rcases lookK_ok k hl hs with ⟨e1, e2⟩ | ⟨d', v', e1, e2, rv⟩
        · rw [e1] at q3
          rw [e2]
          exact q3.now o3 rp3
        · rw [e1] at q3
          rw [e2]
          exact q3.now o3 ((rv.up t2.pre t2.sub).up t3.pre t3.sub)
      cases rp2 with
      | int i => exact fin (Sum.inl i) rfl q3
      | str x => exact fin (Sum.inr x) rfl q3
      | _ => exact q3.elim
    | _ => rename_i hh; cases hh
  · exact q1.elim
end
/-! ## isinstance(e, T) -/
def tyD (S : Sto) : D → Option String
  | .non => some "NoneType"
  | .bl _ => some "bool"
  | .int _ => some "int"
  | .str _ => some "str"
  | .opq _ => some "str"
  | .lst _ => some "list"
  | .ref n => match S[n]? with
    | some (.lst _) => some "list"
    | _ => none
  | .dct _ _ => some "dict"
  | _ => none
def mIsi (T : String) (e : Ed) : Ed := fun Γ S => (e Γ S).bind fun x S1 => match tyD S1 x with
  | some t => match kitB t T with
    | some b => .ok (.bl b) S1
    | none => .bad
  | none => .bad
theorem tyD_ok {K : PySem.W.Frag} {w : Wd} {S : Sto} (o : w.Ok K S) {v : V} {d : D} (r : Rep K w.r w.F v d) {t : String} (e : tyD S d = some t) : TyX K w.H v (.type t) := by
  cases r with
  | non => cases e; exact .base .non
  | bl b => cases e; exact .base (.bl b)
  | int i => cases e; exact .base (.int i)
  | str x => cases e; exact .base (.str x)
  | opq h => cases e; exact .base (.str _)
  | lst h hs => cases e; exact .base (.lst (o.sub _ _ h))
  | dct h _ _ _ => cases e; exact .base (.dK (o.sub _ _ h))
  | @ref a n h =>
    unfold tyD at e
    dsimp only at e
    split at e
    · rename_i xs hx
      cases e
      obtain ⟨vs, h1, _⟩ := o.obj n _ a hx h
      exact .base (.lst h1)
    · cases e
  | _ => cases e
theorem tr_isi {X : Cx} {B : Bs} {W : WX} {e : Expr} {p p2 pos : Pos} {me : Ed} {x : Str} {T : String} (he : Tr X B W e me) (hm : X.mg "isinstance" = none) (hmx : X.mg x = none) (hv : bootBuiltins x = some (.type T)) (hg : Gl X "isinstance" := by rfl) (hgx : Gl X x := by rfl) (hn : x ≠ "__name__" := by decide)
    (hd : (x == ("__debug__" : Str)) = false := by decide) (hs : starEach [e, .Name x p2] X.env = (false, eval e X.env) :: starEach [.Name x p2] X.env := by rfl) (hs2 : starEach [.Name x p2] X.env = (false, eval (.Name x p2) X.env) :: starEach [] X.env := by rfl) (hpl : (backTo pos (starEach [.Name x p2] X.env)).any (·.1) = false := by rfl) :
    Tr X B W (.Call (.Name "isinstance" p) [e, .Name x p2] [] pos) (mIsi T me) := by
  refine imE (pe_callB call_isi hg hm (by decide +kernel) (pa_cons he (pa_cons (pe_bltn (v := V.ty T) hgx hmx hv rfl hn hd) pa_nil hs2) hs) (by decide) (by decide) hs hpl) fun σ H Q h => ?_
  obtain ⟨r0, F0, Γ, S, oo, g, q⟩ := h
  refine ⟨r0, F0, Γ, S, oo, g, PoE.bindE q fun d S1 w1 v _ t1 o1 rp1 q1 => ?_⟩
  cases e1 : tyD S1 d with
  | none => rw [e1] at q1; exact q1.elim
  | some t =>
    rw [e1] at q1
    dsimp only at q1
    cases e2 : kitB t T with
    | none => rw [e2] at q1; exact q1.elim
    | some b =>
      rw [e2] at q1
      exact ⟨v, .ty T, .type t, .type T, b, rfl, .ty T, tyD_ok o1 rp1 e1, kit_ty e2, q1.now o1 (.bl b)⟩
end Fx
end

section
set_option Elab.async false
set_option linter.all false
set_option maxRecDepth 100000
set_option maxHeartbeats 2000000
namespace Fx
open PySem PySem.Spec PyProof.Rows L2
def blkB (N : List Str) (sc scope : Scope) (own : List (Str × Nat)) : Bool :=
  decide (scope.kind = .function) && scope.names.all (fun y => decide (scope.names.lookup y.1 = some y.2)) && own.all (fun p => decide (N[p.2]? = some p.1)) &&
  scope.names.all (fun y => !decide (y.2 = .free) || decide (sc.names.lookup y.1 = some .cell) || decide (sc.names.lookup y.1 = some .free)) &&
  scope.names.all (fun y => !(decide (y.2 = .local) || decide (y.2 = .cell)) || decide (y.1 ∈ own.map (·.1)) || decide (y.1 ∉ N))
theorem blk_of {X : Cx} {N : List Str} {sc scope : Scope} {own : List (Str × Nat)} (hN : X.N = N) (hs : X.env.scope = sc) (h : blkB N sc scope own = true) : BlkOk X.N X.env.scope scope own := by
  rw [hN, hs]
  unfold blkB at h
  simp only [Bool.and_eq_true, decide_eq_true_eq, List.all_eq_true, Bool.or_eq_true, Bool.not_eq_true', decide_eq_false_iff_not, Bool.or_eq_false_iff] at h
  obtain ⟨⟨⟨⟨h1, h2⟩, h3⟩, h4⟩, h5⟩ := h
  refine ⟨h1, h2, h3, fun y hy e => ?_, fun y hy e => ?_⟩
  · rcases h4 y hy with (z | z) | z
    · exact absurd e z
    · exact .inl z
    · exact .inr z
  · rcases h5 y hy with (z | z) | z
    · rcases e with e | e
      · exact absurd e z.1
      · exact absurd e z.2
    · exact .inl z
    · exact .inr z
section
variable {X : Cx} {B : Bs} {W : WX} {tg elt iter : Expr} {ifs : List Expr} {scope : Scope} {src : Id'} {cnd : Bd} {me : Ed} {pos : Pos}
theorem tr_lcV (f : Bool) (i : Nat) (own : List (Str × Nat)) {vs : List Nat} (kp : ∀ i, Keeps B i) (hc : X.calm = true) (hN : X.N.Nodup) (hi : TrI X B W tg iter src) (ok : BlkOk X.N X.env.scope scope own) (hvs : own.map (·.2) = vs) (hm : i ∈ vs)
    (hg : ∀ (s : Shared) (H : Hp) (C : Addr) (cl : List (Str × Addr)) (fp : List Addr), PG (X.blk s H scope (compEnvC scope cl C X.env) fp) tg (gName i))
    (ht : ∀ (s : Shared) (H : Hp) (C : Addr) (cl : List (Str × Addr)) (fp : List Addr), TrT (X.blk s H scope (compEnvC scope cl C X.env) fp) B ifs cnd)
    (he : ∀ (s : Shared) (H : Hp) (C : Addr) (cl : List (Str × Addr)) (fp : List Addr), Tr (X.blk s H scope (compEnvC scope cl C X.env) fp) B W0 elt me) (hs : ∀ x, foldedSetIterable iter X.env x = pure x := by intro _; rfl) :
    Tr X B W (.ListComp elt [⟨tg, iter, ifs, 0⟩] scope pos) (mLc f vs src (gN i) cnd me) := by
  subst hvs
  exact tr_lc f i own kp hc hN hi ok hm hg ht he hs
theorem tr_lcTV (f : Bool) (is : List Nat) (own : List (Str × Nat)) {vs : List Nat} (kp : ∀ i, Keeps B i) (hc : X.calm = true) (hN : X.N.Nodup) (hi : TrI X B W tg iter src) (ok : BlkOk X.N X.env.scope scope own) (hvs : own.map (·.2) = vs) (hm : ∀ i ∈ is, i ∈ vs)
    (hg : ∀ (s : Shared) (H : Hp) (C : Addr) (cl : List (Str × Addr)) (fp : List Addr), PG (X.blk s H scope (compEnvC scope cl C X.env) fp) tg (gTup X.K is.length (gSeq is)))
    (ht : ∀ (s : Shared) (H : Hp) (C : Addr) (cl : List (Str × Addr)) (fp : List Addr), TrT (X.blk s H scope (compEnvC scope cl C X.env) fp) B ifs cnd)
    (he : ∀ (s : Shared) (H : Hp) (C : Addr) (cl : List (Str × Addr)) (fp : List Addr), Tr (X.blk s H scope (compEnvC scope cl C X.env) fp) B W0 elt me) (hs : ∀ x, foldedSetIterable iter X.env x = pure x := by intro _; rfl) :
    Tr X B W (.ListComp elt [⟨tg, iter, ifs, 0⟩] scope pos) (mLc f vs src (gT is) cnd me) := by
  subst hvs
  exact tr_lcT f is own kp hc hN hi ok hm hg ht he hs
theorem ts_setLcV (f : Bool) (i j : Nat) {y : Str} {py spos : Pos} (own : List (Str × Nat)) {vs : List Nat} (kp : ∀ i, Keeps B i) (hc : X.calm = true) (hN : X.N.Nodup) (hy : X.N[i]? = some y) (hyl : X.env.scope.names.lookup y = some .local)
    (hsw : swapsWith (.ListComp elt [⟨tg, iter, ifs, 0⟩] scope pos) (some (.Name y py)) spos.line X.env = pure true) (hi : TrI X B W tg iter src) (ok : BlkOk X.N X.env.scope scope own) (hvs : own.map (·.2) = vs) (hm : j ∈ vs)
    (hg : ∀ (s : Shared) (H : Hp) (C : Addr) (cl : List (Str × Addr)) (fp : List Addr), PG (X.blk s H scope (compEnvC scope cl C X.env) fp) tg (gName j))
    (ht : ∀ (s : Shared) (H : Hp) (C : Addr) (cl : List (Str × Addr)) (fp : List Addr), TrT (X.blk s H scope (compEnvC scope cl C X.env) fp) B ifs cnd)
    (he : ∀ (s : Shared) (H : Hp) (C : Addr) (cl : List (Str × Addr)) (fp : List Addr), Tr (X.blk s H scope (compEnvC scope cl C X.env) fp) B W0 elt me) (hs : ∀ x, foldedSetIterable iter X.env x = pure x := by intro _; rfl) :
    TrS X B W (.Assign [.Name y py] (.ListComp elt [⟨tg, iter, ifs, 0⟩] scope pos) spos) (sAsg (gN i) (mLc f vs src (gN j) cnd me)) := by
  subst hvs
  exact ts_setLc f i j own kp hc hN hy hyl hsw hi ok hm hg ht he hs
end
section
variable {X : Cx} {B : Bs} {W : WX} {o e : Expr} {es : List Expr} {p apos pos : Pos} {ma : Ed} {mA : Ad} {n : Nat}
theorem tr_callV {k : Nat} {f : Addr} {fd : FuncData} {ps : List Str} {fn : Fn} {x : Str} (F : FnOk X.prog X.w X.K X.mg X.base (L2.CX X.prog X.w) k f fd ps (SpF X.K n fn)) (hr : Room k X.A) (hm : X.mg x = some (.ref f)) (hk : PySem.W.keepIn X.K (.ref f) = true)
    (hb : Binds X.K fd ps []) (tk : Takes X W) (ha : TrA X B W (e :: es) mA) (hn : ps.length = n := by rfl) (hg : Gl X x := by rfl) (hdb : (x == ("__debug__" : Str)) = false := by decide) (he : starEach (e :: es) X.env = (false, eval e X.env) :: starEach es X.env := by rfl)
    (hpl : (backTo pos (starEach es X.env)).any (·.1) = false := by rfl) : Tr X B W (.Call (.Name x p) (e :: es) [] pos) (mCall n fn mA) := by
  subst hn
  exact tr_call F hr hm hk hb tk ha hg hdb he hpl
theorem tr_call0V {k : Nat} {f : Addr} {fd : FuncData} {ps : List Str} {fn : Fn} {x : Str} (F : FnOk X.prog X.w X.K X.mg X.base (L2.CX X.prog X.w) k f fd ps (SpF X.K n fn)) (hr : Room k X.A) (hm : X.mg x = some (.ref f)) (hk : PySem.W.keepIn X.K (.ref f) = true)
    (hb : Binds X.K fd ps []) (tk : Takes X W) (hn : ps.length = n := by rfl) (hg : Gl X x := by rfl) (hdb : (x == ("__debug__" : Str)) = false := by decide) : Tr X B W (.Call (.Name x p) [] [] pos) (mCall n fn aNil) := by
  subst hn
  exact tr_call0 F hr hm hk hb tk hg hdb
theorem tr_methV {pl : Sem Bool} {k : Nat} {f : Addr} {fd : FuncData} {ps : List Str} {fn : Fn} {m : Str} {G : Addr → Bool} (F : FnOk X.prog X.w X.K X.mg X.base (L2.CX X.prog X.w) k f fd ps (SpF X.K n fn)) (hr : Room k X.A) (hM : MethF X.K G m f)
    (hb : Binds X.K fd ps []) (tk : Takes X W) (ho : Tr X B W o ma) (ha : TrA X B W (e :: es) mA) (hn : ps.length = n := by rfl)
    (hst : starEach (e :: es) X.env = (false, eval e X.env) :: starEach es X.env := by rfl) (hpl : (backTo pos (starEach es X.env)).any (·.1) = false := by rfl)
    (ht : eval (.Call (.Attribute o m apos) (e :: es) [] pos) X.env = (do
      let ov ← eval o X.env
      standAt apos.atName
      let (f, first) ← holding [ov] (getMethod ov m pl)
      callWith pos f first (backTo pos (starEach (e :: es) X.env)) (backToKw pos (keywordEach [] X.env))) := by rfl) :
    Tr X B W (.Call (.Attribute o m apos) (e :: es) [] pos) (mMeth G m n fn ma mA) := by
  subst hn
  exact tr_meth F hr hM hb tk ho ha hst hpl ht
theorem tr_meth0V {pl : Sem Bool} {k : Nat} {f : Addr} {fd : FuncData} {ps : List Str} {fn : Fn} {m : Str} {G : Addr → Bool} (F : FnOk X.prog X.w X.K X.mg X.base (L2.CX X.prog X.w) k f fd ps (SpF X.K n fn)) (hr : Room k X.A) (hM : MethF X.K G m f)
    (hb : Binds X.K fd ps []) (tk : Takes X W) (ho : Tr X B W o ma) (hn : ps.length = n := by rfl)
    (ht : eval (.Call (.Attribute o m apos) [] [] pos) X.env = (do
      let ov ← eval o X.env
      standAt apos.atName
      let (f, first) ← holding [ov] (getMethod ov m pl)
      callWith pos f first (backTo pos (starEach [] X.env)) (backToKw pos (keywordEach [] X.env))) := by rfl) :
    Tr X B W (.Call (.Attribute o m apos) [] [] pos) (mMeth G m n fn ma aNil) := by
  subst hn
  exact tr_meth0 F hr hM hb tk ho ht
theorem tr_makeV {k : Nat} {f C : Addr} {fd : FuncData} {ps : List Str} {fn : Fn} {x : Str} (M : Mk X.K C f) (F : FnOk X.prog X.w X.K X.mg X.base (L2.CX X.prog X.w) k f fd ps (SpF X.K n fn)) (hr : Room (k + 1) X.A) (hm : X.mg x = some (.ref C))
    (hb : Binds X.K fd ps []) (tk : Takes X W) (ha : TrA X B W (e :: es) mA) (hn : ps.length = n := by rfl) (hg : Gl X x := by rfl) (hdb : (x == ("__debug__" : Str)) = false := by decide) (he : starEach (e :: es) X.env = (false, eval e X.env) :: starEach es X.env := by rfl)
    (hpl : (backTo pos (starEach es X.env)).any (·.1) = false := by rfl) : Tr X B W (.Call (.Name x p) (e :: es) [] pos) (mMake C n fn mA) := by
  subst hn
  exact tr_make M F hr hm hb tk ha hg hdb he hpl
end
end Fx
namespace Fx
open PySem PySem.Spec PyProof.Rows L2
def spStart (K : PySem.W.Frag) (n : Nat) : Sp := fun vs H Q E => ∃ (a : Addr) (ns : List Int), vs = [V.ref a] ∧ SqL K H a (ns.map V.int) ∧ ns.length ≤ n ∧ ∀ H', Q (.bl true) H'
theorem reps_ints {K : PySem.W.Frag} {r : List Addr} {F : Hp} : ∀ ns : List Int, Reps K r F (ns.map V.int) (ns.map D.int)
  | [] => .nil
  | n :: ns => .cons (.int n) (reps_ints ns)
theorem start_of {K : PySem.W.Frag} {n : Nat} {f : Fn} {vs : List V} {H : Hp} {Q : VK} {E : XK} (h : spStart K n vs H Q E) (k : ∀ ns : List Int, ns.length ≤ n → ∃ S, f [.fz (ns.map D.int)] [] = .ok (.bl true) S) : SpF K 1 f vs H Q E := by
  obtain ⟨a, ns, rfl, hS, hl, q⟩ := h
  obtain ⟨S, e⟩ := k ns hl
  refine ⟨[], H, [], [.fz (ns.map D.int)], ⟨SubH.refl _, rfl, List.nodup_nil, fun n o a e _ => by simp at e, fun n o a e _ _ => by simp at e, fun n a e => by simp at e⟩, .cons (.fz hS (reps_ints ns)) .nil, rfl, ?_⟩
  rw [e]
  intro w' v t o r
  cases r with
  | bl b => exact q _
theorem cx_no {P : Program} {w : World} {outer : List Env} {H : Hp} {s : Shared} {e : Value} {s' : Shared} (h : L2.CX P w outer H s (fun _ _ _ => False) e s') : False := by
  obtain ⟨_, _, _, _, _, _, _, _, _, _, _, _, z⟩ := h
  exact z
end Fx
end

section
set_option Elab.async false
set_option linter.all false
set_option maxRecDepth 100000
set_option maxHeartbeats 4000000
namespace K68
open PySem PySem.Spec PyProof.Rows L2 Fx
def top (i : Nat) : Stmt := PySem.Challenge.pw_usesstaybound_k68_spans_and_items_of_tex.main.body.getD i (.Pass ⟨0, 0, 0, 0⟩)
abbrev s__law_pool : Stmt := top 20
abbrev s__law_take : Stmt := top 21
abbrev s__law_one : Stmt := top 22
abbrev s__law_item : Stmt := top 23
abbrev s__law_program : Stmt := top 24
abbrev s__law_word : Stmt := top 25
abbrev s__law_text : Stmt := top 26
abbrev s__law_spans : Stmt := top 27
abbrev s_ItemRow___init__ : Stmt := inClass (top 14) 0
abbrev s_TextWalk_new_row : Stmt := inClass (top 15) 3
abbrev s_TextWalk_next_in : Stmt := inClass (top 15) 1
abbrev s_TextWalk_go_over_number : Stmt := inClass (top 15) 5
abbrev s_TextWalk_go_over_name : Stmt := inClass (top 15) 4
abbrev s_TextWalk_small_item : Stmt := inClass (top 15) 6
abbrev s_OpenItem___init__ : Stmt := inClass (top 13) 0
abbrev s_TextWalk___init__ : Stmt := inClass (top 15) 0
abbrev s_BadText___init__ : Stmt := inClass (top 3) 0
abbrev s_TextWalk_refuse_here : Stmt := inClass (top 15) 2
abbrev s_TextWalk_begin_first : Stmt := inClass (top 15) 8
abbrev s_TextWalk_begin_item : Stmt := inClass (top 15) 7
abbrev s_TextWalk_close_item : Stmt := inClass (top 15) 9
abbrev s_TextWalk_go_on : Stmt := inClass (top 15) 10
abbrev s_TextWalk_walked_rows : Stmt := inClass (top 15) 11
abbrev s_rows_of_text : Stmt := top 16
abbrev s_spans_of : Stmt := top 17
abbrev s_is_whole : Stmt := top 5
abbrev s_is_number : Stmt := top 6
abbrev s_NoIndex___init__ : Stmt := inClass (top 2) 0
abbrev s_item_at : Stmt := top 18
abbrev s__law_told : Stmt := top 28
abbrev s_law : Stmt := top 29
abbrev nm__law_pool : List Str := ["script", "k", "cell", "big", "mixed"]
theorem sc__law_pool : FnScope ["script", "k", "cell", "big", "mixed"] ["script", "k"] (defScope s__law_pool) := ⟨rfl, rfl, rfl, by decide +kernel, rfl, by decide +kernel, by decide +kernel⟩
abbrev nm__law_take : List Str := ["pool", "bound", "result"]
theorem sc__law_take : FnScope ["pool", "bound", "result"] ["pool", "bound"] (defScope s__law_take) := ⟨rfl, rfl, rfl, by decide +kernel, rfl, by decide +kernel, by decide +kernel⟩
abbrev nm__law_one : List Str := ["pool", "things"]
theorem sc__law_one : FnScope ["pool", "things"] ["pool", "things"] (defScope s__law_one) := ⟨rfl, rfl, rfl, by decide +kernel, rfl, by decide +kernel, by decide +kernel⟩
abbrev nm__law_item : List Str := ["pool", "deep", "names", "way", "items", "turn"]
theorem sc__law_item : FnScope ["pool", "deep", "names", "way", "items", "turn"] ["pool", "deep", "names"] (defScope s__law_item) := ⟨rfl, rfl, rfl, by decide +kernel, rfl, by decide +kernel, by decide +kernel⟩
abbrev nm__law_program : List Str := ["pool", "names", "turn"]
theorem sc__law_program : FnScope ["pool", "names", "turn"] ["pool", "names"] (defScope s__law_program) := ⟨rfl, rfl, rfl, by decide +kernel, rfl, by decide +kernel, by decide +kernel⟩
abbrev nm__law_word : List Str := ["item", "words", "opening", "one"]
theorem sc__law_word : FnScope ["item", "words", "opening", "one"] ["item"] (defScope s__law_word) := ⟨rfl, rfl, rfl, by decide +kernel, rfl, by decide +kernel, by decide +kernel⟩
abbrev nm__law_text : List Str := ["program", "item"]
theorem sc__law_text : FnScope ["program", "item"] ["program"] (defScope s__law_text) := ⟨rfl, rfl, rfl, by decide +kernel, rfl, by decide +kernel, by decide +kernel⟩
abbrev nm__law_spans : List Str := ["items", "path", "first", "rows", "at", "item", "own", "behind", "opening"]
theorem sc__law_spans : FnScope ["items", "path", "first", "rows", "at", "item", "own", "behind", "opening"] ["items", "path", "first"] (defScope s__law_spans) := ⟨rfl, rfl, rfl, by decide +kernel, rfl, by decide +kernel, by decide +kernel⟩
abbrev nm_ItemRow___init__ : List Str := ["self", "path", "first", "kind", "value"]
theorem sc_ItemRow___init__ : FnScope ["self", "path", "first", "kind", "value"] ["self", "path", "first", "kind", "value"] (defScope s_ItemRow___init__) := ⟨rfl, rfl, rfl, by decide +kernel, rfl, by decide +kernel, by decide +kernel⟩
abbrev nm_TextWalk_new_row : List Str := ["self", "first", "kind", "value", "holder", "row"]
theorem sc_TextWalk_new_row : FnScope ["self", "first", "kind", "value", "holder", "row"] ["self", "first", "kind", "value"] (defScope s_TextWalk_new_row) := ⟨rfl, rfl, rfl, by decide +kernel, rfl, by decide +kernel, by decide +kernel⟩
abbrev nm_TextWalk_next_in : List Str := ["self", "signs"]
theorem sc_TextWalk_next_in : FnScope ["self", "signs"] ["self", "signs"] (defScope s_TextWalk_next_in) := ⟨rfl, rfl, rfl, by decide +kernel, rfl, by decide +kernel, by decide +kernel⟩
abbrev nm_TextWalk_go_over_number : List Str := ["self", "first"]
theorem sc_TextWalk_go_over_number : FnScope ["self", "first"] ["self"] (defScope s_TextWalk_go_over_number) := ⟨rfl, rfl, rfl, by decide +kernel, rfl, by decide +kernel, by decide +kernel⟩
abbrev nm_TextWalk_go_over_name : List Str := ["self", "first"]
theorem sc_TextWalk_go_over_name : FnScope ["self", "first"] ["self"] (defScope s_TextWalk_go_over_name) := ⟨rfl, rfl, rfl, by decide +kernel, rfl, by decide +kernel, by decide +kernel⟩
abbrev nm_TextWalk_small_item : List Str := ["self", "first", "row"]
theorem sc_TextWalk_small_item : FnScope ["self", "first", "row"] ["self"] (defScope s_TextWalk_small_item) := ⟨rfl, rfl, rfl, by decide +kernel, rfl, by decide +kernel, by decide +kernel⟩
abbrev nm_OpenItem___init__ : List Str := ["self", "path", "row"]
theorem sc_OpenItem___init__ : FnScope ["self", "path", "row"] ["self", "path", "row"] (defScope s_OpenItem___init__) := ⟨rfl, rfl, rfl, by decide +kernel, rfl, by decide +kernel, by decide +kernel⟩
abbrev nm_TextWalk___init__ : List Str := ["self", "text"]
theorem sc_TextWalk___init__ : FnScope ["self", "text"] ["self", "text"] (defScope s_TextWalk___init__) := ⟨rfl, rfl, rfl, by decide +kernel, rfl, by decide +kernel, by decide +kernel⟩
abbrev nm_TextWalk_refuse_here : List Str := ["self"]
theorem sc_TextWalk_refuse_here : FnScope ["self"] ["self"] (defScope s_TextWalk_refuse_here) := ⟨rfl, rfl, rfl, by decide +kernel, rfl, by decide +kernel, by decide +kernel⟩
abbrev nm_TextWalk_begin_first : List Str := ["self", "held", "row"]
theorem sc_TextWalk_begin_first : FnScope ["self", "held", "row"] ["self"] (defScope s_TextWalk_begin_first) := ⟨rfl, rfl, rfl, by decide +kernel, rfl, by decide +kernel, by decide +kernel⟩
abbrev nm_TextWalk_begin_item : List Str := ["self", "row"]
theorem sc_TextWalk_begin_item : FnScope ["self", "row"] ["self"] (defScope s_TextWalk_begin_item) := ⟨rfl, rfl, rfl, by decide +kernel, rfl, by decide +kernel, by decide +kernel⟩
abbrev nm_TextWalk_close_item : List Str := ["self"]
theorem sc_TextWalk_close_item : FnScope ["self"] ["self"] (defScope s_TextWalk_close_item) := ⟨rfl, rfl, rfl, by decide +kernel, rfl, by decide +kernel, by decide +kernel⟩
abbrev nm_TextWalk_go_on : List Str := ["self"]
theorem sc_TextWalk_go_on : FnScope ["self"] ["self"] (defScope s_TextWalk_go_on) := ⟨rfl, rfl, rfl, by decide +kernel, rfl, by decide +kernel, by decide +kernel⟩
abbrev nm_TextWalk_walked_rows : List Str := ["self", "going"]
theorem sc_TextWalk_walked_rows : FnScope ["self", "going"] ["self"] (defScope s_TextWalk_walked_rows) := ⟨rfl, rfl, rfl, by decide +kernel, rfl, by decide +kernel, by decide +kernel⟩
abbrev nm_rows_of_text : List Str := ["text"]
theorem sc_rows_of_text : FnScope ["text"] ["text"] (defScope s_rows_of_text) := ⟨rfl, rfl, rfl, by decide +kernel, rfl, by decide +kernel, by decide +kernel⟩
abbrev nm_spans_of : List Str := ["text", "row"]
theorem sc_spans_of : FnScope ["text", "row"] ["text"] (defScope s_spans_of) := ⟨rfl, rfl, rfl, by decide +kernel, rfl, by decide +kernel, by decide +kernel⟩
abbrev nm_is_whole : List Str := ["value"]
theorem sc_is_whole : FnScope ["value"] ["value"] (defScope s_is_whole) := ⟨rfl, rfl, rfl, by decide +kernel, rfl, by decide +kernel, by decide +kernel⟩
abbrev nm_is_number : List Str := ["value", "low", "high"]
theorem sc_is_number : FnScope ["value", "low", "high"] ["value", "low", "high"] (defScope s_is_number) := ⟨rfl, rfl, rfl, by decide +kernel, rfl, by decide +kernel, by decide +kernel⟩
abbrev nm_item_at : List Str := ["text", "index", "rows", "found", "row"]
theorem sc_item_at : FnScope ["text", "index", "rows", "found", "row"] ["text", "index"] (defScope s_item_at) := ⟨rfl, rfl, rfl, by decide +kernel, rfl, by decide +kernel, by decide +kernel⟩
abbrev nm__law_told : List Str := ["text", "index", "e"]
theorem sc__law_told : FnScope ["text", "index", "e"] ["text", "index"] (defScope s__law_told) := ⟨rfl, rfl, rfl, by decide +kernel, rfl, by decide +kernel, by decide +kernel⟩
abbrev nm_law : List Str := ["script", "k", "pool", "program", "text", "rows", "turn", "row", "index", "due", "path", "first", "behind", "odd"]
theorem sc_law : FnScope ["script", "k", "pool", "program", "text", "rows", "turn", "row", "index", "due", "path", "first", "behind", "odd"] ["script"] (defScope s_law) := ⟨rfl, rfl, rfl, by decide +kernel, rfl, by decide +kernel, by decide +kernel⟩
structure Ads where
  C_OpenItem : Addr
  C_ItemRow : Addr
  C_TextWalk : Addr
  C_NoIndex : Addr
  C_BadText : Addr
  f__law_pool : Addr
  d__law_pool : FuncData
  f__law_take : Addr
  d__law_take : FuncData
  f__law_one : Addr
  d__law_one : FuncData
  f__law_item : Addr
  d__law_item : FuncData
  f__law_program : Addr
  d__law_program : FuncData
  f__law_word : Addr
  d__law_word : FuncData
  f__law_text : Addr
  d__law_text : FuncData
  f__law_spans : Addr
  d__law_spans : FuncData
  f_ItemRow___init__ : Addr
  d_ItemRow___init__ : FuncData
  f_TextWalk_new_row : Addr
  d_TextWalk_new_row : FuncData
  f_TextWalk_next_in : Addr
  d_TextWalk_next_in : FuncData
  f_TextWalk_go_over_number : Addr
  d_TextWalk_go_over_number : FuncData
  f_TextWalk_go_over_name : Addr
  d_TextWalk_go_over_name : FuncData
  f_TextWalk_small_item : Addr
  d_TextWalk_small_item : FuncData
  f_OpenItem___init__ : Addr
  d_OpenItem___init__ : FuncData
  f_TextWalk___init__ : Addr
  d_TextWalk___init__ : FuncData
  f_BadText___init__ : Addr
  d_BadText___init__ : FuncData
  f_TextWalk_refuse_here : Addr
  d_TextWalk_refuse_here : FuncData
  f_TextWalk_begin_first : Addr
  d_TextWalk_begin_first : FuncData
  f_TextWalk_begin_item : Addr
  d_TextWalk_begin_item : FuncData
  f_TextWalk_close_item : Addr
  d_TextWalk_close_item : FuncData
  f_TextWalk_go_on : Addr
  d_TextWalk_go_on : FuncData
  f_TextWalk_walked_rows : Addr
  d_TextWalk_walked_rows : FuncData
  f_rows_of_text : Addr
  d_rows_of_text : FuncData
  f_spans_of : Addr
  d_spans_of : FuncData
  f_is_whole : Addr
  d_is_whole : FuncData
  f_is_number : Addr
  d_is_number : FuncData
  f_NoIndex___init__ : Addr
  d_NoIndex___init__ : FuncData
  f_item_at : Addr
  d_item_at : FuncData
  f__law_told : Addr
  d__law_told : FuncData
  f_law : Addr
  d_law : FuncData
  g_SIGNED_KINDS : Addr
def t_SIGNED_KINDS : List (Str × Str) := [("+", "sum"), ("*", "product")]
def G_own_at (A : Ads) : Addr → Bool := fun a => a == A.C_TextWalk
def G_own_behind (A : Ads) : Addr → Bool := fun a => a == A.C_ItemRow
def G_own_first (A : Ads) : Addr → Bool := fun a => a == A.C_ItemRow
def G_own_kind (A : Ads) : Addr → Bool := fun a => a == A.C_ItemRow
def G_own_many (A : Ads) : Addr → Bool := fun a => a == A.C_OpenItem
def G_own_path (A : Ads) : Addr → Bool := fun a => a == A.C_OpenItem || a == A.C_ItemRow
def G_own_pile (A : Ads) : Addr → Bool := fun a => a == A.C_TextWalk
def G_own_row (A : Ads) : Addr → Bool := fun a => a == A.C_OpenItem
def G_own_rows (A : Ads) : Addr → Bool := fun a => a == A.C_TextWalk
def G_own_text (A : Ads) : Addr → Bool := fun a => a == A.C_TextWalk
def G_own_value (A : Ads) : Addr → Bool := fun a => a == A.C_ItemRow
def H_begin_first (A : Ads) : Addr → Bool := fun a => a == A.C_TextWalk
def H_begin_item (A : Ads) : Addr → Bool := fun a => a == A.C_TextWalk
def H_close_item (A : Ads) : Addr → Bool := fun a => a == A.C_TextWalk
def H_go_on (A : Ads) : Addr → Bool := fun a => a == A.C_TextWalk
def H_go_over_name (A : Ads) : Addr → Bool := fun a => a == A.C_TextWalk
def H_go_over_number (A : Ads) : Addr → Bool := fun a => a == A.C_TextWalk
def H_new_row (A : Ads) : Addr → Bool := fun a => a == A.C_TextWalk
def H_next_in (A : Ads) : Addr → Bool := fun a => a == A.C_TextWalk
def H_refuse_here (A : Ads) : Addr → Bool := fun a => a == A.C_TextWalk
def H_small_item (A : Ads) : Addr → Bool := fun a => a == A.C_TextWalk
def H_walked_rows (A : Ads) : Addr → Bool := fun a => a == A.C_TextWalk
def mt_NoIndex (A : Ads) : Addr → Option Bool := fun c => if c = A.C_NoIndex then some true else if c = A.C_BadText then some false else none
theorem mt_NoIndex_eq {A : Ads} {c : Addr} (h : mt_NoIndex A c = some true) : c = A.C_NoIndex := by
  unfold mt_NoIndex at h
  repeat (first | (split at h) | assumption | cases h)
def mt_BadText (A : Ads) : Addr → Option Bool := fun c => if c = A.C_BadText then some true else if c = A.C_NoIndex then some false else none
theorem mt_BadText_eq {A : Ads} {c : Addr} (h : mt_BadText A c = some true) : c = A.C_BadText := by
  unfold mt_BadText at h
  repeat (first | (split at h) | assumption | cases h)
structure TX (P : Program) (wd : World) (K : PySem.W.Frag) (mg : Str → Option Value) (A : Ads) : Prop where
  F__law_pool : Fun K "_law_pool" "_law_pool" s__law_pool A.f__law_pool A.d__law_pool
  B__law_pool : Binds K A.d__law_pool ["script", "k"] []
  m__law_pool : mg "_law_pool" = some (.ref A.f__law_pool)
  F__law_take : Fun K "_law_take" "_law_take" s__law_take A.f__law_take A.d__law_take
  B__law_take : Binds K A.d__law_take ["pool", "bound"] []
  m__law_take : mg "_law_take" = some (.ref A.f__law_take)
  F__law_one : Fun K "_law_one" "_law_one" s__law_one A.f__law_one A.d__law_one
  B__law_one : Binds K A.d__law_one ["pool", "things"] []
  m__law_one : mg "_law_one" = some (.ref A.f__law_one)
  F__law_item : Fun K "_law_item" "_law_item" s__law_item A.f__law_item A.d__law_item
  B__law_item : Binds K A.d__law_item ["pool", "deep", "names"] []
  m__law_item : mg "_law_item" = some (.ref A.f__law_item)
  F__law_program : Fun K "_law_program" "_law_program" s__law_program A.f__law_program A.d__law_program
  B__law_program : Binds K A.d__law_program ["pool", "names"] []
  m__law_program : mg "_law_program" = some (.ref A.f__law_program)
  F__law_word : Fun K "_law_word" "_law_word" s__law_word A.f__law_word A.d__law_word
  B__law_word : Binds K A.d__law_word ["item"] []
  m__law_word : mg "_law_word" = some (.ref A.f__law_word)
  F__law_text : Fun K "_law_text" "_law_text" s__law_text A.f__law_text A.d__law_text
  B__law_text : Binds K A.d__law_text ["program"] []
  m__law_text : mg "_law_text" = some (.ref A.f__law_text)
  F__law_spans : Fun K "_law_spans" "_law_spans" s__law_spans A.f__law_spans A.d__law_spans
  B__law_spans : Binds K A.d__law_spans ["items", "path", "first"] []
  m__law_spans : mg "_law_spans" = some (.ref A.f__law_spans)
  F_ItemRow___init__ : Fun K "__init__" "ItemRow.__init__" s_ItemRow___init__ A.f_ItemRow___init__ A.d_ItemRow___init__
  B_ItemRow___init__ : Binds K A.d_ItemRow___init__ ["self", "path", "first", "kind", "value"] []
  F_TextWalk_new_row : Fun K "new_row" "TextWalk.new_row" s_TextWalk_new_row A.f_TextWalk_new_row A.d_TextWalk_new_row
  B_TextWalk_new_row : Binds K A.d_TextWalk_new_row ["self", "first", "kind", "value"] []
  F_TextWalk_next_in : Fun K "next_in" "TextWalk.next_in" s_TextWalk_next_in A.f_TextWalk_next_in A.d_TextWalk_next_in
  B_TextWalk_next_in : Binds K A.d_TextWalk_next_in ["self", "signs"] []
  F_TextWalk_go_over_number : Fun K "go_over_number" "TextWalk.go_over_number" s_TextWalk_go_over_number A.f_TextWalk_go_over_number A.d_TextWalk_go_over_number
  B_TextWalk_go_over_number : Binds K A.d_TextWalk_go_over_number ["self"] []
  F_TextWalk_go_over_name : Fun K "go_over_name" "TextWalk.go_over_name" s_TextWalk_go_over_name A.f_TextWalk_go_over_name A.d_TextWalk_go_over_name
  B_TextWalk_go_over_name : Binds K A.d_TextWalk_go_over_name ["self"] []
  F_TextWalk_small_item : Fun K "small_item" "TextWalk.small_item" s_TextWalk_small_item A.f_TextWalk_small_item A.d_TextWalk_small_item
  B_TextWalk_small_item : Binds K A.d_TextWalk_small_item ["self"] []
  F_OpenItem___init__ : Fun K "__init__" "OpenItem.__init__" s_OpenItem___init__ A.f_OpenItem___init__ A.d_OpenItem___init__
  B_OpenItem___init__ : Binds K A.d_OpenItem___init__ ["self", "path", "row"] []
  F_TextWalk___init__ : Fun K "__init__" "TextWalk.__init__" s_TextWalk___init__ A.f_TextWalk___init__ A.d_TextWalk___init__
  B_TextWalk___init__ : Binds K A.d_TextWalk___init__ ["self", "text"] []
  F_TextWalk_refuse_here : Fun K "refuse_here" "TextWalk.refuse_here" s_TextWalk_refuse_here A.f_TextWalk_refuse_here A.d_TextWalk_refuse_here
  B_TextWalk_refuse_here : Binds K A.d_TextWalk_refuse_here ["self"] []
  F_TextWalk_begin_first : Fun K "begin_first" "TextWalk.begin_first" s_TextWalk_begin_first A.f_TextWalk_begin_first A.d_TextWalk_begin_first
  B_TextWalk_begin_first : Binds K A.d_TextWalk_begin_first ["self"] []
  F_TextWalk_begin_item : Fun K "begin_item" "TextWalk.begin_item" s_TextWalk_begin_item A.f_TextWalk_begin_item A.d_TextWalk_begin_item
  B_TextWalk_begin_item : Binds K A.d_TextWalk_begin_item ["self"] []
  F_TextWalk_close_item : Fun K "close_item" "TextWalk.close_item" s_TextWalk_close_item A.f_TextWalk_close_item A.d_TextWalk_close_item
  B_TextWalk_close_item : Binds K A.d_TextWalk_close_item ["self"] []
  F_TextWalk_go_on : Fun K "go_on" "TextWalk.go_on" s_TextWalk_go_on A.f_TextWalk_go_on A.d_TextWalk_go_on
  B_TextWalk_go_on : Binds K A.d_TextWalk_go_on ["self"] []
  F_TextWalk_walked_rows : Fun K "walked_rows" "TextWalk.walked_rows" s_TextWalk_walked_rows A.f_TextWalk_walked_rows A.d_TextWalk_walked_rows
  B_TextWalk_walked_rows : Binds K A.d_TextWalk_walked_rows ["self"] []
  F_rows_of_text : Fun K "rows_of_text" "rows_of_text" s_rows_of_text A.f_rows_of_text A.d_rows_of_text
  B_rows_of_text : Binds K A.d_rows_of_text ["text"] []
  m_rows_of_text : mg "rows_of_text" = some (.ref A.f_rows_of_text)
  F_spans_of : Fun K "spans_of" "spans_of" s_spans_of A.f_spans_of A.d_spans_of
  B_spans_of : Binds K A.d_spans_of ["text"] []
  m_spans_of : mg "spans_of" = some (.ref A.f_spans_of)
  F_is_whole : Fun K "is_whole" "is_whole" s_is_whole A.f_is_whole A.d_is_whole
  B_is_whole : Binds K A.d_is_whole ["value"] []
  m_is_whole : mg "is_whole" = some (.ref A.f_is_whole)
  F_is_number : Fun K "is_number" "is_number" s_is_number A.f_is_number A.d_is_number
  B_is_number : Binds K A.d_is_number ["value", "low", "high"] []
  m_is_number : mg "is_number" = some (.ref A.f_is_number)
  F_item_at : Fun K "item_at" "item_at" s_item_at A.f_item_at A.d_item_at
  B_item_at : Binds K A.d_item_at ["text", "index"] []
  m_item_at : mg "item_at" = some (.ref A.f_item_at)
  F__law_told : Fun K "_law_told" "_law_told" s__law_told A.f__law_told A.d__law_told
  B__law_told : Binds K A.d__law_told ["text", "index"] []
  m__law_told : mg "_law_told" = some (.ref A.f__law_told)
  F_law : Fun K "law" "law" s_law A.f_law A.d_law
  B_law : Binds K A.d_law ["script"] []
  m_law : mg "law" = some (.ref A.f_law)
  c_OpenItem : mg "OpenItem" = some (.ref A.C_OpenItem)
  c_ItemRow : mg "ItemRow" = some (.ref A.C_ItemRow)
  c_TextWalk : mg "TextWalk" = some (.ref A.C_TextWalk)
  c_NoIndex : mg "NoIndex" = some (.ref A.C_NoIndex)
  c_BadText : mg "BadText" = some (.ref A.C_BadText)
  K_OpenItem : Mk K A.C_OpenItem A.f_OpenItem___init__
  K_ItemRow : Mk K A.C_ItemRow A.f_ItemRow___init__
  K_TextWalk : Mk K A.C_TextWalk A.f_TextWalk___init__
  f_own_at : Plain K (G_own_at A) "own_at"
  f_own_behind : Plain K (G_own_behind A) "own_behind"
  f_own_first : Plain K (G_own_first A) "own_first"
  f_own_kind : Plain K (G_own_kind A) "own_kind"
  f_own_many : Plain K (G_own_many A) "own_many"
  f_own_path : Plain K (G_own_path A) "own_path"
  f_own_pile : Plain K (G_own_pile A) "own_pile"
  f_own_row : Plain K (G_own_row A) "own_row"
  f_own_rows : Plain K (G_own_rows A) "own_rows"
  f_own_text : Plain K (G_own_text A) "own_text"
  f_own_value : Plain K (G_own_value A) "own_value"
  h_begin_first : MethF K (H_begin_first A) "begin_first" A.f_TextWalk_begin_first
  h_begin_item : MethF K (H_begin_item A) "begin_item" A.f_TextWalk_begin_item
  h_close_item : MethF K (H_close_item A) "close_item" A.f_TextWalk_close_item
  h_go_on : MethF K (H_go_on A) "go_on" A.f_TextWalk_go_on
  h_go_over_name : MethF K (H_go_over_name A) "go_over_name" A.f_TextWalk_go_over_name
  h_go_over_number : MethF K (H_go_over_number A) "go_over_number" A.f_TextWalk_go_over_number
  h_new_row : MethF K (H_new_row A) "new_row" A.f_TextWalk_new_row
  h_next_in : MethF K (H_next_in A) "next_in" A.f_TextWalk_next_in
  h_refuse_here : MethF K (H_refuse_here A) "refuse_here" A.f_TextWalk_refuse_here
  h_small_item : MethF K (H_small_item A) "small_item" A.f_TextWalk_small_item
  h_walked_rows : MethF K (H_walked_rows A) "walked_rows" A.f_TextWalk_walked_rows
  g_LEADING_FIGURES : ∃ t, mg "LEADING_FIGURES" = some (.str ("123456789" : Str) t)
  g_MOST_LETTERS : ∃ t, mg "MOST_LETTERS" = some (.int 4 t)
  g_SIGNED_KINDS : mg "SIGNED_KINDS" = some (.ref A.g_SIGNED_KINDS)
  d_SIGNED_KINDS : ∀ z v, t_SIGNED_KINDS.lookup z = some v → KDct K wd A.g_SIGNED_KINDS z (.str v)
  g_TEXT_FIGURES : ∃ t, mg "TEXT_FIGURES" = some (.str ("0123456789" : Str) t)
  g_TEXT_LETTERS : ∃ t, mg "TEXT_LETTERS" = some (.str ("abcdefghijklmnopqrstuvwxyz" : Str) t)
  b_bool : mg "bool" = none
  b_int : mg "int" = none
  b_isinstance : mg "isinstance" = none
  b_len : mg "len" = none
  b_max : mg "max" = none
  b_min : mg "min" = none
  b_range : mg "range" = none
  b_str : mg "str" = none
  b_tuple : mg "tuple" = none
  S_NoIndex : SupC K A.C_NoIndex A.C_NoIndex "told"
  I_NoIndex : PySem.W.findIn K (.ref A.C_NoIndex) "__init__" = some (some (.ref A.f_NoIndex___init__))
  Y_NoIndex : PySem.W.typeIn K (.ref A.f_NoIndex___init__) = some (.type "function")
  B_NoIndex___init__ : Binds K A.d_NoIndex___init__ ["self", "told"] []
  E_NoIndex : ∀ base, FnOk P wd K mg base (L2.CX P wd) 1 A.f_NoIndex___init__ A.d_NoIndex___init__ ["self", "told"] (spSup K A.C_NoIndex "told")
  X_NoIndex : XfC K A.C_NoIndex
  M_NoIndex : ∀ c b, mt_NoIndex A c = some b → PySem.W.exmOne K (.ref c) (.ref A.C_NoIndex) = some b
  S_BadText : SupC K A.C_BadText A.C_BadText "told"
  I_BadText : PySem.W.findIn K (.ref A.C_BadText) "__init__" = some (some (.ref A.f_BadText___init__))
  Y_BadText : PySem.W.typeIn K (.ref A.f_BadText___init__) = some (.type "function")
  B_BadText___init__ : Binds K A.d_BadText___init__ ["self", "told"] []
  E_BadText : ∀ base, FnOk P wd K mg base (L2.CX P wd) 1 A.f_BadText___init__ A.d_BadText___init__ ["self", "told"] (spSup K A.C_BadText "told")
  X_BadText : XfC K A.C_BadText
  M_BadText : ∀ c b, mt_BadText A c = some b → PySem.W.exmOne K (.ref c) (.ref A.C_BadText) = some b
  ne_ItemRow_OpenItem : A.C_ItemRow ≠ A.C_OpenItem
  ne_TextWalk_OpenItem : A.C_TextWalk ≠ A.C_OpenItem
  ne_TextWalk_ItemRow : A.C_TextWalk ≠ A.C_ItemRow
  ne_NoIndex_OpenItem : A.C_NoIndex ≠ A.C_OpenItem
  ne_NoIndex_ItemRow : A.C_NoIndex ≠ A.C_ItemRow
  ne_NoIndex_TextWalk : A.C_NoIndex ≠ A.C_TextWalk
  ne_BadText_OpenItem : A.C_BadText ≠ A.C_OpenItem
  ne_BadText_ItemRow : A.C_BadText ≠ A.C_ItemRow
  ne_BadText_TextWalk : A.C_BadText ≠ A.C_TextWalk
  ne_BadText_NoIndex : A.C_BadText ≠ A.C_NoIndex
def m__law_pool (A : Ads) : Fn := runF 5 (sSeq (sAsg (gN 2) (mC (.int 0))) (sSeq (sIf (mT (mOp dLt (mVar 1) (mBlt fLen (aCons (mVar 0) aNil)))) (sAsg (gN 2) (mOp dIx (mVar 0) (mVar 1))) sPass) (sSeq (sAsg (gN 3) (mBlt fMax2 (aCons (mBlt fInt (aCons (mVar 2) aNil)) (aCons (mBlt fInt (aCons (mOp dSub (mUn dNeg (mC (.int 1))) (mVar 2)) aNil)) aNil)))) (sSeq (sAsg (gN 4) (mOp dMod (mBlt fInt (aCons (mOp dMul (mOp (dAdd true) (mOp (dAdd true) (mOp (dAdd true) (mOp dMod (mBlt fInt (aCons (mVar 3) aNil)) (mC (.int 2147483629))) (mOp dMul (mOp dMul (mC (.int 4093)) (mVar 1)) (mVar 1))) (mOp dMul (mC (.int 29)) (mVar 1))) (mC (.int 31))) (mC (.int 48271))) aNil)) (mC (.int 2147483647)))) (sRet (mLst false (aCons (mOp dMul (mVar 3) (mBlt fInt (aCons (mOp dGe (mVar 3) (mOp dPow (mC (.int 10)) (mC (.int 18)))) aNil))) (aCons (mVar 4) aNil))))))))
def m__law_take (A : Ads) : Fn := runF 3 (sSeq (sIf (mT (mOp dGt (mOp dIx (mVar 0) (mC (.int 0))) (mC (.int 0)))) (sSeq (sAsg (gN 2) (mOp dMod (mBlt fInt (aCons (mOp dIx (mVar 0) (mC (.int 0))) aNil)) (mVar 1))) (sSeq (sSub (mOp dDiv (mOp dIx (mVar 0) (mC (.int 0))) (mVar 1)) (mVar 0) (mC (.int 0))) (sRet (mVar 2)))) sPass) (sSeq (sSub (mOp dMod (mBlt fInt (aCons (mOp (dAdd true) (mOp dMul (mOp dIx (mVar 0) (mC (.int 1))) (mC (.int 39373))) (mC (.int 7))) aNil)) (mC (.int 2147483647))) (mVar 0) (mC (.int 1))) (sRet (mOp dMod (mBlt fInt (aCons (mOp dDiv (mOp dMod (mBlt fInt (aCons (mOp dMul (mOp dIx (mVar 0) (mC (.int 1))) (mOp dIx (mVar 0) (mC (.int 1)))) aNil)) (mC (.int 2147483629))) (mC (.int 32))) aNil)) (mVar 1)))))
def m__law_one (A : Ads) : Fn := runF 2 (sRet (mOp dIx (mVar 1) (mCall 2 (m__law_take A) (aCons (mVar 0) (aCons (mBlt fLen (aCons (mVar 1) aNil)) aNil)))))
def b__law_item (A : Ads) (rec : Fn) : Sd := (sSeq (sAsg (gN 3) (mCall 2 (m__law_take A) (aCons (mVar 0) (aCons (mC (.int 9)) aNil)))) (sSeq (sIf (mOr (mT (mOp dEq (mVar 1) (mC (.int 0)))) (mT (mOp dLt (mVar 3) (mC (.int 4))))) (sSeq (sIf (mOr (mT (mOp dEq (mVar 3) (mC (.int 3)))) (mT (mOp dEq (mVar 2) (mLst true aNil)))) (sRet (mTup (aCons (mC (.str ("number" : Str))) (aCons (mCall 2 (m__law_take A) (aCons (mVar 0) (aCons (mC (.int 100)) aNil))) aNil)))) sPass) (sRet (mIf (mT (mOp dEq (mVar 3) (mC (.int 2)))) (mTup (aCons (mC (.str ("lost" : Str))) aNil)) (mTup (aCons (mC (.str ("use" : Str))) (aCons (mCall 2 (m__law_one A) (aCons (mVar 0) (aCons (mVar 2) aNil))) aNil)))))) sPass) (sSeq (sAsg (gN 4) (mBlt fTuple (aCons (mLc true [5] (iRg rng1 (aCons (mCall 2 (m__law_take A) (aCons (mVar 0) (aCons (mC (.int 4)) aNil))) aNil)) (gN 5) bYes (mCall 3 rec (aCons (mVar 0) (aCons (mOp dSub (mVar 1) (mC (.int 1))) (aCons (mVar 2) aNil))))) aNil))) (sSeq (sIf (mT (mOp dLt (mVar 3) (mC (.int 7)))) (sRet (mTup (aCons (mOp dIx (mLst true (aCons (mC (.str ("block" : Str))) (aCons (mC (.str ("sum" : Str))) (aCons (mC (.str ("product" : Str))) aNil)))) (mOp dSub (mVar 3) (mC (.int 4)))) (aCons (mVar 4) aNil)))) sPass) (sRet (mTup (aCons (mC (.str ("let" : Str))) (aCons (mCall 2 (m__law_one A) (aCons (mVar 0) (aCons (mOp (dAdd true) (mVar 2) (mLst true (aCons (mC (.str ("b" : Str))) aNil))) aNil))) (aCons (mVar 4) aNil)))))))))
def m__law_item (A : Ads) : Nat → Fn
  | 0 => fun _ _ => .bad
  | n + 1 => runF 6 (b__law_item A (m__law_item A n))
def m__law_program (A : Ads) : Fn := runF 3 (sRet (mBlt fTuple (aCons (mLc true [2] (iRg rng1 (aCons (mCall 2 (m__law_take A) (aCons (mVar 0) (aCons (mC (.int 5)) aNil))) aNil)) (gN 2) bYes (mCall 3 (m__law_item A 12) (aCons (mVar 0) (aCons (mC (.int 3)) (aCons (mVar 1) aNil))))) aNil)))
def b__law_word (A : Ads) (rec : Fn) : Sd := (sSeq (sIf (mT (mOp dEq (mOp dIx (mVar 0) (mC (.int 0))) (mC (.str ("number" : Str))))) (sRet (mBlt fStr (aCons (mOp dIx (mVar 0) (mC (.int 1))) aNil))) sPass) (sSeq (sIf (mT (mOp dEq (mOp dIx (mVar 0) (mC (.int 0))) (mC (.str ("lost" : Str))))) (sRet (mC (.str ("?" : Str)))) sPass) (sSeq (sIf (mT (mOp dEq (mOp dIx (mVar 0) (mC (.int 0))) (mC (.str ("use" : Str))))) (sRet (mOp dIx (mVar 0) (mC (.int 1)))) sPass) (sSeq (sAsg (gN 1) (mLc true [3] (iTupD (mOp dIx (mVar 0) (mUn dNeg (mC (.int 1))))) (gN 3) bYes (mCall 1 rec (aCons (mVar 3) aNil)))) (sSeq (sIf (mT (mOp dEq (mOp dIx (mVar 0) (mC (.int 0))) (mC (.str ("block" : Str))))) (sRet (mOp (dAdd true) (mOp (dAdd true) (mC (.str ("(" : Str))) (mJoin (mC (.str (" " : Str))) (mVar 1))) (mC (.str (")" : Str))))) sPass) (sSeq (sAsg (gN 2) (mDget2 (mDct [Sum.inr ("sum" : Str), Sum.inr ("product" : Str)] (aCons (mC (.str ("(+" : Str))) (aCons (mC (.str ("(*" : Str))) aNil))) (mOp dIx (mVar 0) (mC (.int 0))) (mOp (dAdd true) (mOp (dAdd true) (mC (.str ("(" : Str))) (mBlt fStr (aCons (mOp dIx (mVar 0) (mC (.int 1))) aNil))) (mC (.str (" =" : Str)))))) (sRet (mOp (dAdd true) (mJoin (mC (.str (" " : Str))) (mOp (dAdd true) (mLst true (aCons (mVar 2) aNil)) (mVar 1))) (mC (.str (")" : Str)))))))))))
def m__law_word (A : Ads) : Nat → Fn
  | 0 => fun _ _ => .bad
  | n + 1 => runF 4 (b__law_word A (m__law_word A n))
def m__law_text (A : Ads) : Fn := runF 2 (sRet (mJoin (mC (.str (" " : Str))) (mLc true [1] (iTupD (mVar 0)) (gN 1) bYes (mCall 1 (m__law_word A 12) (aCons (mVar 1) aNil)))))
def B__law_spans_1 (A : Ads) (rec : Fn) : Sd := (sSeq (sPar 5 6 (aCons (mOp dIx (mVar 0) (mVar 4)) (aCons (mOp (dAdd true) (mVar 1) (mTup (aCons (mVar 4) aNil))) aNil))) (sSeq (sAsg (gN 7) (mOp (dAdd true) (mVar 2) (mBlt fLen (aCons (mCall 1 (m__law_word A 12) (aCons (mVar 5) aNil)) aNil)))) (sSeq (sDrop (mAppend (mVar 3) (mTup (aCons (mVar 6) (aCons (mVar 2) (aCons (mVar 7) aNil)))))) (sSeq (sIf (mT (mOp (dIn false) (mOp dIx (mVar 5) (mC (.int 0))) (mTup (aCons (mC (.str ("block" : Str))) (aCons (mC (.str ("sum" : Str))) (aCons (mC (.str ("product" : Str))) (aCons (mC (.str ("let" : Str))) aNil))))))) (sSeq (sAsg (gN 8) (mDget2 (mDct [Sum.inr ("block" : Str), Sum.inr ("sum" : Str), Sum.inr ("product" : Str)] (aCons (mC (.int 1)) (aCons (mC (.int 3)) (aCons (mC (.int 3)) aNil)))) (mOp dIx (mVar 5) (mC (.int 0))) (mC (.int 0)))) (sSeq (sAsg (gN 8) (mIf (mT (mOp dNe (mOp dIx (mVar 5) (mC (.int 0))) (mC (.str ("let" : Str))))) (mVar 8) (mOp (dAdd true) (mBlt fLen (aCons (mOp dIx (mVar 5) (mC (.int 1))) aNil)) (mC (.int 4))))) (sAsg (gN 3) (mOp (dAdd false) (mVar 3) (mCall 3 rec (aCons (mOp dIx (mVar 5) (mUn dNeg (mC (.int 1)))) (aCons (mVar 6) (aCons (mOp (dAdd false) (mVar 2) (mVar 8)) aNil)))))))) sPass) (sAsg (gN 2) (mOp (dAdd true) (mVar 7) (mC (.int 1))))))))
def b__law_spans (A : Ads) (rec : Fn) : Sd := (sSeq (sAsg (gN 3) (mLst false aNil)) (sSeq (sFor (iRg rng1 (aCons (mBlt fLen (aCons (mVar 0) aNil)) aNil)) (gN 4) (B__law_spans_1 A rec)) (sRet (mVar 3))))
def m__law_spans (A : Ads) : Nat → Fn
  | 0 => fun _ _ => .bad
  | n + 1 => runF 9 (b__law_spans A (m__law_spans A n))
def m_ItemRow___init__ (A : Ads) : Fn := runF 5 (sSeq (sFldA (G_own_path A) ("own_path" : Str) (mVar 0) (mVar 1)) (sSeq (sFldA (G_own_first A) ("own_first" : Str) (mVar 0) (mVar 2)) (sSeq (sFldA (G_own_behind A) ("own_behind" : Str) (mVar 0) (mVar 2)) (sSeq (sFldA (G_own_kind A) ("own_kind" : Str) (mVar 0) (mVar 3)) (sFldA (G_own_value A) ("own_value" : Str) (mVar 0) (mVar 4))))))
def m_TextWalk_new_row (A : Ads) : Fn := runF 6 (sSeq (sAsg (gN 4) (mOp dIx (mUn (dFld (G_own_pile A) ("own_pile" : Str)) (mVar 0)) (mUn dNeg (mC (.int 1))))) (sSeq (sAsg (gN 5) (mMake A.C_ItemRow 5 (m_ItemRow___init__ A) (aCons (mTup (aStar (mUn (dFld (G_own_path A) ("own_path" : Str)) (mVar 4)) (aCons (mUn (dFld (G_own_many A) ("own_many" : Str)) (mVar 4)) aNil))) (aCons (mVar 1) (aCons (mVar 2) (aCons (mVar 3) aNil)))))) (sSeq (sFldG (G_own_many A) ("own_many" : Str) (fun i j => i + j) (mVar 4) (mC (.int 1))) (sSeq (sDrop (mAppend (mUn (dFld (G_own_rows A) ("own_rows" : Str)) (mVar 0)) (mVar 5))) (sRet (mVar 5))))))
def m_TextWalk_next_in (A : Ads) : Fn := runF 2 (sRet (vAnd (mOp dLt (mUn (dFld (G_own_at A) ("own_at" : Str)) (mVar 0)) (mBlt fLen (aCons (mUn (dFld (G_own_text A) ("own_text" : Str)) (mVar 0)) aNil))) (mOp dSg (mOp dIx (mUn (dFld (G_own_text A) ("own_text" : Str)) (mVar 0)) (mUn (dFld (G_own_at A) ("own_at" : Str)) (mVar 0))) (mVar 1))))
def m_TextWalk_go_over_number (A : Ads) : Fn := runF 2 (sSeq (sAsg (gN 1) (mUn (dFld (G_own_at A) ("own_at" : Str)) (mVar 0))) (sSeq (sFldG (G_own_at A) ("own_at" : Str) (fun i j => i + j) (mVar 0) (mC (.int 1))) (sSeq (sIf (mAnd (mT (mOp dNe (mOp dIx (mUn (dFld (G_own_text A) ("own_text" : Str)) (mVar 0)) (mVar 1)) (mC (.str ("0" : Str))))) (mT (mMeth (H_next_in A) ("next_in" : Str) 2 (m_TextWalk_next_in A) (mVar 0) (aCons (mC (.str ("0123456789" : Str))) aNil)))) (sFldG (G_own_at A) ("own_at" : Str) (fun i j => i + j) (mVar 0) (mC (.int 1))) sPass) (sRet (mBlt fInt (aCons (mSl true (mUn (dFld (G_own_text A) ("own_text" : Str)) (mVar 0)) (oSo (mVar 1)) (oSo (mUn (dFld (G_own_at A) ("own_at" : Str)) (mVar 0)))) aNil))))))
def B_TextWalk_go_over_name_1 (A : Ads) : Sd := (sFldG (G_own_at A) ("own_at" : Str) (fun i j => i + j) (mVar 0) (mC (.int 1)))
def m_TextWalk_go_over_name (A : Ads) : Fn := runF 2 (sSeq (sAsg (gN 1) (mUn (dFld (G_own_at A) ("own_at" : Str)) (mVar 0))) (sSeq (sWhile big (mAnd (mT (mOp dLt (mOp dSub (mUn (dFld (G_own_at A) ("own_at" : Str)) (mVar 0)) (mVar 1)) (mC (.int 4)))) (mT (mMeth (H_next_in A) ("next_in" : Str) 2 (m_TextWalk_next_in A) (mVar 0) (aCons (mC (.str ("abcdefghijklmnopqrstuvwxyz" : Str))) aNil)))) (B_TextWalk_go_over_name_1 A)) (sSeq (sIf (mT (mMeth (H_next_in A) ("next_in" : Str) 2 (m_TextWalk_next_in A) (mVar 0) (aCons (mC (.str ("123456789" : Str))) aNil))) (sSeq (sFldG (G_own_at A) ("own_at" : Str) (fun i j => i + j) (mVar 0) (mC (.int 1))) (sIf (mT (mMeth (H_next_in A) ("next_in" : Str) 2 (m_TextWalk_next_in A) (mVar 0) (aCons (mC (.str ("0123456789" : Str))) aNil))) (sFldG (G_own_at A) ("own_at" : Str) (fun i j => i + j) (mVar 0) (mC (.int 1))) sPass)) sPass) (sRet (mSl true (mUn (dFld (G_own_text A) ("own_text" : Str)) (mVar 0)) (oSo (mVar 1)) (oSo (mUn (dFld (G_own_at A) ("own_at" : Str)) (mVar 0))))))))
def m_TextWalk_small_item (A : Ads) : Fn := runF 3 (sSeq (sAsg (gN 1) (mUn (dFld (G_own_at A) ("own_at" : Str)) (mVar 0))) (sSeq (sIf (mT (mMeth (H_next_in A) ("next_in" : Str) 2 (m_TextWalk_next_in A) (mVar 0) (aCons (mC (.str ("0123456789" : Str))) aNil))) (sAsg (gN 2) (mMeth (H_new_row A) ("new_row" : Str) 4 (m_TextWalk_new_row A) (mVar 0) (aCons (mVar 1) (aCons (mC (.str ("number" : Str))) (aCons (mMeth (H_go_over_number A) ("go_over_number" : Str) 1 (m_TextWalk_go_over_number A) (mVar 0) aNil) aNil))))) (sIf (mT (mMeth (H_next_in A) ("next_in" : Str) 2 (m_TextWalk_next_in A) (mVar 0) (aCons (mC (.str ("abcdefghijklmnopqrstuvwxyz" : Str))) aNil))) (sAsg (gN 2) (mMeth (H_new_row A) ("new_row" : Str) 4 (m_TextWalk_new_row A) (mVar 0) (aCons (mVar 1) (aCons (mC (.str ("use" : Str))) (aCons (mMeth (H_go_over_name A) ("go_over_name" : Str) 1 (m_TextWalk_go_over_name A) (mVar 0) aNil) aNil))))) (sIf (mT (mMeth (H_next_in A) ("next_in" : Str) 2 (m_TextWalk_next_in A) (mVar 0) (aCons (mC (.str ("?" : Str))) aNil))) (sSeq (sFldG (G_own_at A) ("own_at" : Str) (fun i j => i + j) (mVar 0) (mC (.int 1))) (sAsg (gN 2) (mMeth (H_new_row A) ("new_row" : Str) 4 (m_TextWalk_new_row A) (mVar 0) (aCons (mVar 1) (aCons (mC (.str ("lost" : Str))) (aCons (mC .non) aNil)))))) (sRet (mC .non))))) (sSeq (sFldA (G_own_behind A) ("own_behind" : Str) (mVar 2) (mUn (dFld (G_own_at A) ("own_at" : Str)) (mVar 0))) (sRet (mVar 2)))))
def m_OpenItem___init__ (A : Ads) : Fn := runF 3 (sSeq (sFldA (G_own_path A) ("own_path" : Str) (mVar 0) (mVar 1)) (sSeq (sFldA (G_own_row A) ("own_row" : Str) (mVar 0) (mVar 2)) (sFldA (G_own_many A) ("own_many" : Str) (mVar 0) (mC (.int 0)))))
def m_TextWalk___init__ (A : Ads) : Fn := runF 2 (sSeq (sFldA (G_own_text A) ("own_text" : Str) (mVar 0) (mVar 1)) (sSeq (sFldA (G_own_at A) ("own_at" : Str) (mVar 0) (mC (.int 0))) (sSeq (sFldA (G_own_rows A) ("own_rows" : Str) (mVar 0) (mLst false aNil)) (sFldA (G_own_pile A) ("own_pile" : Str) (mVar 0) (mLst false (aCons (mMake A.C_OpenItem 3 (m_OpenItem___init__ A) (aCons (mTup aNil) (aCons (mC .non) aNil))) aNil))))))
def m_TextWalk_refuse_here (A : Ads) : Fn := runF 1 (sRaise A.C_BadText ("told" : Str) (mUn (dFld (G_own_at A) ("own_at" : Str)) (mVar 0)))
def m_TextWalk_begin_first (A : Ads) (rec : Fn) : Fn := runF 3 (sSeq (sAsg (gN 1) (mOp dIx (mUn (dFld (G_own_pile A) ("own_pile" : Str)) (mVar 0)) (mUn dNeg (mC (.int 1))))) (sSeq (sAsg (gN 2) (mMeth (H_small_item A) ("small_item" : Str) 1 (m_TextWalk_small_item A) (mVar 0) aNil)) (sIf (mT (mOp (dIs false) (mVar 2) (mC .non))) (sDrop (mMeth (H_begin_item A) ("begin_item" : Str) 1 rec (mVar 0) aNil)) (sIf (mAnd (mT (mOp dEq (mUn (dFld (G_own_kind A) ("own_kind" : Str)) (mVar 2)) (mC (.str ("use" : Str))))) (mT (mOp dEq (mSl true (mUn (dFld (G_own_text A) ("own_text" : Str)) (mVar 0)) (oSo (mUn (dFld (G_own_at A) ("own_at" : Str)) (mVar 0))) (oSo (mOp (dAdd true) (mUn (dFld (G_own_at A) ("own_at" : Str)) (mVar 0)) (mC (.int 2))))) (mC (.str (" =" : Str)))))) (sSeq (sDrop (mPop (mUn (dFld (G_own_rows A) ("own_rows" : Str)) (mVar 0)))) (sSeq (sFldA (G_own_many A) ("own_many" : Str) (mVar 1) (mC (.int 0))) (sSeq (sFldA (G_own_kind A) ("own_kind" : Str) (mUn (dFld (G_own_row A) ("own_row" : Str)) (mVar 1)) (mC (.str ("let" : Str)))) (sSeq (sFldA (G_own_value A) ("own_value" : Str) (mUn (dFld (G_own_row A) ("own_row" : Str)) (mVar 1)) (mUn (dFld (G_own_value A) ("own_value" : Str)) (mVar 2))) (sFldG (G_own_at A) ("own_at" : Str) (fun i j => i + j) (mVar 0) (mC (.int 2))))))) sPass))))
def b_TextWalk_begin_item (A : Ads) (rec : Fn) : Sd := (sSeq (sIf (mT (mOp (dIs true) (mMeth (H_small_item A) ("small_item" : Str) 1 (m_TextWalk_small_item A) (mVar 0) aNil) (mC .non))) sRetN sPass) (sSeq (sIf (mNot (mT (mMeth (H_next_in A) ("next_in" : Str) 2 (m_TextWalk_next_in A) (mVar 0) (aCons (mC (.str ("(" : Str))) aNil)))) (sDrop (mMeth (H_refuse_here A) ("refuse_here" : Str) 1 (m_TextWalk_refuse_here A) (mVar 0) aNil)) sPass) (sSeq (sAsg (gN 1) (mMeth (H_new_row A) ("new_row" : Str) 4 (m_TextWalk_new_row A) (mVar 0) (aCons (mUn (dFld (G_own_at A) ("own_at" : Str)) (mVar 0)) (aCons (mC (.str ("block" : Str))) (aCons (mC .non) aNil))))) (sSeq (sFldG (G_own_at A) ("own_at" : Str) (fun i j => i + j) (mVar 0) (mC (.int 1))) (sSeq (sDrop (mAppend (mUn (dFld (G_own_pile A) ("own_pile" : Str)) (mVar 0)) (mMake A.C_OpenItem 3 (m_OpenItem___init__ A) (aCons (mUn (dFld (G_own_path A) ("own_path" : Str)) (mVar 1)) (aCons (mVar 1) aNil))))) (sIf (mT (mMeth (H_next_in A) ("next_in" : Str) 2 (m_TextWalk_next_in A) (mVar 0) (aCons (mC (.str ("+*" : Str))) aNil))) (sSeq (sFldA (G_own_kind A) ("own_kind" : Str) (mVar 1) (mOp (dKd A.g_SIGNED_KINDS t_SIGNED_KINDS) (mC (.adr A.g_SIGNED_KINDS)) (mOp dIx (mUn (dFld (G_own_text A) ("own_text" : Str)) (mVar 0)) (mUn (dFld (G_own_at A) ("own_at" : Str)) (mVar 0))))) (sFldG (G_own_at A) ("own_at" : Str) (fun i j => i + j) (mVar 0) (mC (.int 1)))) (sIf (mNot (mT (mMeth (H_next_in A) ("next_in" : Str) 2 (m_TextWalk_next_in A) (mVar 0) (aCons (mC (.str (")" : Str))) aNil)))) (sDrop (mMeth (H_begin_first A) ("begin_first" : Str) 1 (m_TextWalk_begin_first A rec) (mVar 0) aNil)) sPass)))))))
def m_TextWalk_begin_item (A : Ads) : Nat → Fn
  | 0 => fun _ _ => .bad
  | n + 1 => runF 2 (b_TextWalk_begin_item A (m_TextWalk_begin_item A n))
def m_TextWalk_close_item (A : Ads) : Fn := runF 1 (sSeq (sFldG (G_own_at A) ("own_at" : Str) (fun i j => i + j) (mVar 0) (mC (.int 1))) (sSeq (sFldA (G_own_behind A) ("own_behind" : Str) (mUn (dFld (G_own_row A) ("own_row" : Str)) (mOp dIx (mUn (dFld (G_own_pile A) ("own_pile" : Str)) (mVar 0)) (mUn dNeg (mC (.int 1))))) (mUn (dFld (G_own_at A) ("own_at" : Str)) (mVar 0))) (sDrop (mPop (mUn (dFld (G_own_pile A) ("own_pile" : Str)) (mVar 0))))))
def m_TextWalk_go_on (A : Ads) : Fn := runF 1 (sSeq (sIf (mAnd (mT (mOp dEq (mUn (dFld (G_own_at A) ("own_at" : Str)) (mVar 0)) (mBlt fLen (aCons (mUn (dFld (G_own_text A) ("own_text" : Str)) (mVar 0)) aNil)))) (mT (mOp dEq (mBlt fLen (aCons (mUn (dFld (G_own_pile A) ("own_pile" : Str)) (mVar 0)) aNil)) (mC (.int 1))))) (sRet (mC (.bl false))) sPass) (sSeq (sIf (mAnd (mT (mMeth (H_next_in A) ("next_in" : Str) 2 (m_TextWalk_next_in A) (mVar 0) (aCons (mC (.str (")" : Str))) aNil))) (mT (mOp dGt (mBlt fLen (aCons (mUn (dFld (G_own_pile A) ("own_pile" : Str)) (mVar 0)) aNil)) (mC (.int 1))))) (sDrop (mMeth (H_close_item A) ("close_item" : Str) 1 (m_TextWalk_close_item A) (mVar 0) aNil)) (sIf (mT (mMeth (H_next_in A) ("next_in" : Str) 2 (m_TextWalk_next_in A) (mVar 0) (aCons (mC (.str (" " : Str))) aNil))) (sSeq (sFldG (G_own_at A) ("own_at" : Str) (fun i j => i + j) (mVar 0) (mC (.int 1))) (sDrop (mMeth (H_begin_item A) ("begin_item" : Str) 1 (m_TextWalk_begin_item A 12) (mVar 0) aNil))) (sDrop (mMeth (H_refuse_here A) ("refuse_here" : Str) 1 (m_TextWalk_refuse_here A) (mVar 0) aNil)))) (sRet (mC (.bl true)))))
def B_TextWalk_walked_rows_1 (A : Ads) : Sd := (sAsg (gN 1) (mMeth (H_go_on A) ("go_on" : Str) 1 (m_TextWalk_go_on A) (mVar 0) aNil))
def m_TextWalk_walked_rows (A : Ads) : Fn := runF 2 (sSeq (sIf (mT (mOp dNe (mUn (dFld (G_own_text A) ("own_text" : Str)) (mVar 0)) (mC (.str ("" : Str))))) (sSeq (sDrop (mMeth (H_begin_item A) ("begin_item" : Str) 1 (m_TextWalk_begin_item A 12) (mVar 0) aNil)) (sSeq (sAsg (gN 1) (mC (.bl true))) (sWhile big (mT (mVar 1)) (B_TextWalk_walked_rows_1 A)))) sPass) (sRet (mUn (dFld (G_own_rows A) ("own_rows" : Str)) (mVar 0))))
def m_rows_of_text (A : Ads) : Fn := runF 1 (sSeq (sIf (mNot (mT (mIsi "str" (mVar 0)))) (sRaise A.C_BadText ("told" : Str) (mC (.int 0))) sPass) (sRet (mMeth (H_walked_rows A) ("walked_rows" : Str) 1 (m_TextWalk_walked_rows A) (mMake A.C_TextWalk 2 (m_TextWalk___init__ A) (aCons (mVar 0) aNil)) aNil)))
def m_spans_of (A : Ads) : Fn := runF 2 (sRet (mLc true [1] (iSeq (mCall 1 (m_rows_of_text A) (aCons (mVar 0) aNil))) (gN 1) bYes (mTup (aCons (mUn (dFld (G_own_path A) ("own_path" : Str)) (mVar 1)) (aCons (mUn (dFld (G_own_first A) ("own_first" : Str)) (mVar 1)) (aCons (mUn (dFld (G_own_behind A) ("own_behind" : Str)) (mVar 1)) aNil))))))
def m_is_whole (A : Ads) : Fn := runF 1 (sRet (vAnd (mIsi "int" (mVar 0)) (vNot (mIsi "bool" (mVar 0)))))
def m_is_number (A : Ads) : Fn := runF 3 (sRet (vAnd (mCall 1 (m_is_whole A) (aCons (mVar 0) aNil)) (mCh dLe dLe (mVar 1) (mVar 0) (mVar 2))))
def B_item_at_1 (A : Ads) : Sd := (sIf (mT (mCh dLe dLt (mUn (dFld (G_own_first A) ("own_first" : Str)) (mVar 4)) (mVar 1) (mUn (dFld (G_own_behind A) ("own_behind" : Str)) (mVar 4)))) (sAsg (gN 3) (mUn (dFld (G_own_path A) ("own_path" : Str)) (mVar 4))) sPass)
def m_item_at (A : Ads) : Fn := runF 5 (sSeq (sAsg (gN 2) (mCall 1 (m_rows_of_text A) (aCons (mVar 0) aNil))) (sSeq (sIf (mNot (mT (mCall 3 (m_is_number A) (aCons (mVar 1) (aCons (mC (.int 0)) (aCons (mOp dSub (mBlt fLen (aCons (mVar 0) aNil)) (mC (.int 1))) aNil)))))) (sRaise A.C_NoIndex ("told" : Str) (mVar 1)) sPass) (sSeq (sAsg (gN 3) (mTup aNil)) (sSeq (sFor (iSeq (mVar 2)) (gN 4) (B_item_at_1 A)) (sRet (mVar 3))))))
def m__law_told (A : Ads) : Fn := runF 3 (sTry (sRet (mCall 2 (m_item_at A) (aCons (mVar 0) (aCons (mVar 1) aNil)))) ((mt_NoIndex A, some 2, fun fs => (sRet (mLst true (aCons (mC (.str ("index" : Str))) (aCons (mLook fs ("told" : Str)) aNil))))) :: ((mt_BadText A, some 2, fun fs => (sRet (mLst true (aCons (mC (.str ("text" : Str))) (aCons (mLook fs ("told" : Str)) aNil))))) :: [])))
def B_law_1 (A : Ads) : Sd := (sAsg (gN 9) (mIf (mT (mCh dLe dLt (mVar 11) (mVar 8) (mVar 12))) (mVar 10) (mVar 9)))
def B_law_2 (A : Ads) : Sd := (sSeq (sAsg (gN 9) (mIf (mT (mOp dLt (mVar 8) (mBlt fLen (aCons (mVar 4) aNil)))) (mTup aNil) (mLst true (aCons (mC (.str ("index" : Str))) (aCons (mVar 8) aNil))))) (sSeq (sFor (iSeq (mVar 5)) (gT [10, 11, 12]) (B_law_1 A)) (sIf (mT (mOp dNe (mCall 2 (m__law_told A) (aCons (mVar 4) (aCons (mVar 8) aNil))) (mVar 9))) (sRet (mC (.bl false))) sPass)))
def B_law_3 (A : Ads) : Sd := (sSeq (sAsg (gN 7) (mCall 2 (m__law_one A) (aCons (mVar 2) (aCons (mVar 5) aNil)))) (sFor (iSeq (mLst true (aCons (mOp dIx (mVar 7) (mC (.int 1))) (aCons (mOp dSub (mOp dIx (mVar 7) (mC (.int 2))) (mC (.int 1))) (aCons (mOp dIx (mVar 7) (mC (.int 2))) aNil))))) (gN 8) (B_law_2 A)))
def B_law_4 (A : Ads) : Sd := (sIf (mT (mOp dNe (mCall 2 (m__law_told A) (aCons (mVar 4) (aCons (mVar 13) aNil))) (mLst true (aCons (mC (.str ("index" : Str))) (aCons (mVar 13) aNil))))) (sRet (mC (.bl false))) sPass)
def B_law_5 (A : Ads) : Sd := (sSeq (sAsg (gN 2) (mCall 2 (m__law_pool A) (aCons (mVar 0) (aCons (mVar 1) aNil)))) (sSeq (sAsg (gN 3) (mCall 2 (m__law_program A) (aCons (mVar 2) (aCons (mLst true (aCons (mC (.str ("a" : Str))) (aCons (mC (.str ("b" : Str))) (aCons (mC (.str ("ab" : Str))) (aCons (mC (.str ("x1" : Str))) (aCons (mC (.str ("b12" : Str))) (aCons (mC (.str ("zzzz" : Str))) (aCons (mC (.str ("q99" : Str))) aNil)))))))) aNil)))) (sSeq (sPar 4 5 (aCons (mCall 1 (m__law_text A) (aCons (mVar 3) aNil)) (aCons (mCall 3 (m__law_spans A 12) (aCons (mVar 3) (aCons (mTup aNil) (aCons (mC (.int 0)) aNil)))) aNil))) (sSeq (sIf (mT (mOp dNe (mCall 1 (m_spans_of A) (aCons (mVar 4) aNil)) (mVar 5))) (sRet (mC (.bl false))) sPass) (sSeq (sFor (iRg rng1 (aCons (mIf (mT (mOp dNe (mVar 5) (mLst true aNil))) (mC (.int 4)) (mC (.int 0))) aNil)) (gN 6) (B_law_3 A)) (sSeq (sFor (iSeq (mLst true (aCons (mUn dNeg (mC (.int 1))) (aCons (mBlt fLen (aCons (mVar 4) aNil)) (aCons (mC (.bl true)) (aCons (mC .non) (aCons (mC (.str ("0" : Str))) (aCons (mOp dPow (mC (.int 10)) (mC (.int 20))) aNil)))))))) (gN 13) (B_law_4 A)) (sIf (mOr (mT (mOp dNe (mCall 2 (m__law_told A) (aCons (mOp (dAdd true) (mVar 4) (mC (.str (" " : Str)))) (aCons (mC (.int 0)) aNil))) (mLst true (aCons (mC (.str ("text" : Str))) (aCons (mOp (dAdd true) (mBlt fLen (aCons (mVar 4) aNil)) (mBlt fInt (aCons (mOp dNe (mVar 4) (mC (.str ("" : Str)))) aNil))) aNil))))) (mT (mOp dNe (mCall 2 (m__law_told A) (aCons (mC .non) (aCons (mC .non) aNil))) (mLst true (aCons (mC (.str ("text" : Str))) (aCons (mC (.int 0)) aNil)))))) (sRet (mC (.bl false))) sPass)))))))
def m_law (A : Ads) : Fn := runF 14 (sSeq (sFor (iRg rng1 (aCons (mBlt fMax2 (aCons (mC (.int 1)) (aCons (mBlt fMin2 (aCons (mC (.int 3)) (aCons (mBlt fLen (aCons (mVar 0) aNil)) aNil))) aNil))) aNil)) (gN 1) (B_law_5 A)) (sRet (mC (.bl true))))
section
variable {P : Program} {wd : World} {K : PySem.W.Frag} {mg : Str → Option Value} {base : Heap} {A : Ads}
theorem ok_NoIndex___init__ (T : TX P wd K mg A) : FnOk P wd K mg base (L2.CX P wd) 1 A.f_NoIndex___init__ A.d_NoIndex___init__ ["self", "told"] (spSup K A.C_NoIndex "told") := T.E_NoIndex base
theorem ok_BadText___init__ (T : TX P wd K mg A) : FnOk P wd K mg base (L2.CX P wd) 1 A.f_BadText___init__ A.d_BadText___init__ ["self", "told"] (spSup K A.C_BadText "told") := T.E_BadText base
theorem ok__law_pool (T : TX P wd K mg A) : FnOk P wd K mg base (L2.CX P wd) 1 A.f__law_pool A.d__law_pool ["script", "k"] (SpF K 2 (m__law_pool A)) :=
  fn_ok T.F__law_pool sc__law_pool (fun cdv Ar outer s H E B kp hr tk => (tss_cons (ts_set 2 sc__law_pool.nd (kp 2) tr_int) (tss_cons (ts_if (tb_lt (tr_var 1) (tr_len T.b_len (ta_cons (tr_var 0) ta_nil))) (tss_one (ts_set 2 sc__law_pool.nd (kp 2) (tr_ix (tr_var 0) (tr_var 1)))) tss_nil) (tss_cons (ts_set 3 sc__law_pool.nd (kp 3) (tr_max2 T.b_max (ta_cons (tr_intc T.b_int (ta_cons (tr_var 2) ta_nil)) (ta_cons (tr_intc T.b_int (ta_cons (tr_sub (tr_neg tr_int) (tr_var 2)) ta_nil)) ta_nil)))) (tss_cons (ts_set 4 sc__law_pool.nd (kp 4) (tr_mod (tr_intc T.b_int (ta_cons (tr_mul (tr_add true (tr_add true (tr_add true (tr_mod (tr_intc T.b_int (ta_cons (tr_var 3) ta_nil)) tr_int) (tr_mul (tr_mul tr_int (tr_var 1)) (tr_var 1))) (tr_mul tr_int (tr_var 1))) tr_int) tr_int) ta_nil)) tr_int)) (tss_one (ts_ret (tr_lst false (ta_cons (tr_mul (tr_var 3) (tr_intc T.b_int (ta_cons (tr_ge (tr_var 3) (tr_pow tr_int tr_int)) ta_nil))) (ta_cons (tr_var 4) ta_nil))))))))))
theorem ok__law_take (T : TX P wd K mg A) : FnOk P wd K mg base (L2.CX P wd) 1 A.f__law_take A.d__law_take ["pool", "bound"] (SpF K 2 (m__law_take A)) :=
  fn_ok T.F__law_take sc__law_take (fun cdv Ar outer s H E B kp hr tk => (tss_cons (ts_if (tb_gt (tr_ix (tr_var 0) tr_int) tr_int) (tss_cons (ts_set 2 sc__law_take.nd (kp 2) (tr_mod (tr_intc T.b_int (ta_cons (tr_ix (tr_var 0) tr_int) ta_nil)) (tr_var 1))) (tss_cons (ts_sub (tr_div (tr_ix (tr_var 0) tr_int) (tr_var 1)) (tr_var 0) tr_int (fun _ _ _ h1 h2 h3 => ps_asg h1 (pg_sub h2 h3 set_list))) (tss_one (ts_ret (tr_var 2))))) tss_nil) (tss_cons (ts_sub (tr_mod (tr_intc T.b_int (ta_cons (tr_add true (tr_mul (tr_ix (tr_var 0) tr_int) tr_int) tr_int) ta_nil)) tr_int) (tr_var 0) tr_int (fun _ _ _ h1 h2 h3 => ps_asg h1 (pg_sub h2 h3 set_list))) (tss_one (ts_ret (tr_mod (tr_intc T.b_int (ta_cons (tr_div (tr_mod (tr_intc T.b_int (ta_cons (tr_mul (tr_ix (tr_var 0) tr_int) (tr_ix (tr_var 0) tr_int)) ta_nil)) tr_int) tr_int) ta_nil)) (tr_var 1)))))))
theorem ok__law_one (T : TX P wd K mg A) : FnOk P wd K mg base (L2.CX P wd) 2 A.f__law_one A.d__law_one ["pool", "things"] (SpF K 2 (m__law_one A)) :=
  fn_ok T.F__law_one sc__law_one (fun cdv Ar outer s H E B kp hr tk => (tss_one (ts_ret (tr_ix (tr_var 1) (tr_callV (ok__law_take T) (hr.mono (by omega)) T.m__law_take T.F__law_take.kp T.B__law_take tk (ta_cons (tr_var 0) (ta_cons (tr_len T.b_len (ta_cons (tr_var 1) ta_nil)) ta_nil)))))))
theorem okr__law_item (T : TX P wd K mg A) {L : Nat} {rec : Fn} (hL : 2 ≤ L) (R : FnOk P wd K mg base (L2.CX P wd) L A.f__law_item A.d__law_item ["pool", "deep", "names"] (SpF K 3 rec)) : FnOk P wd K mg base (L2.CX P wd) (L + 1) A.f__law_item A.d__law_item ["pool", "deep", "names"] (SpF K 3 (runF 6 (b__law_item A rec))) :=
  fn_ok T.F__law_item sc__law_item (fun cdv Ar outer s H E B kp hr tk => (tss_cons (ts_set 3 sc__law_item.nd (kp 3) (tr_callV (ok__law_take T) (hr.mono (by omega)) T.m__law_take T.F__law_take.kp T.B__law_take tk (ta_cons (tr_var 0) (ta_cons tr_int ta_nil)))) (tss_cons (ts_if (tb_w (tw_or (tb_eq hr (tr_var 1) tr_int) (tw_or1 (tb_lt (tr_var 3) tr_int)))) (tss_cons (ts_if (tb_w (tw_or (tb_eq hr (tr_var 3) tr_int) (tw_or1 (tb_eq hr (tr_var 2) (tr_lst true ta_nil))))) (tss_one (ts_ret (tr_tup (ta_cons tr_str (ta_cons (tr_callV (ok__law_take T) (hr.mono (by omega)) T.m__law_take T.F__law_take.kp T.B__law_take tk (ta_cons (tr_var 0) (ta_cons tr_int ta_nil))) ta_nil))))) tss_nil) (tss_one (ts_ret (tr_if (tb_eq hr (tr_var 3) tr_int) (tr_tup (ta_cons tr_str ta_nil)) (tr_tup (ta_cons tr_str (ta_cons (tr_callV (ok__law_one T) (hr.mono (by omega)) T.m__law_one T.F__law_one.kp T.B__law_one tk (ta_cons (tr_var 0) (ta_cons (tr_var 2) ta_nil))) ta_nil))))))) tss_nil) (tss_cons (ts_set 4 sc__law_item.nd (kp 4) (tr_tuplec T.b_tuple (ta_cons (tr_lcV true 5 [("turn", 5)] kp rfl sc__law_item.nd (ti_rng1 T.b_range (ta_cons (tr_callV (ok__law_take T) (hr.mono (by omega)) T.m__law_take T.F__law_take.kp T.B__law_take tk (ta_cons (tr_var 0) (ta_cons tr_int ta_nil))) ta_nil)) (blk_of (N := nm__law_item) (sc := defScope s__law_item) rfl rfl (by decide +kernel)) rfl (by decide) (fun s H C cl fp => pg_name (i := 5) sc__law_item.nd rfl (Or.inl rfl)) (fun s H C cl fp => tt_nil) (fun s H C cl fp => (tr_callV R (hr.mono (by omega)) T.m__law_item T.F__law_item.kp T.B__law_item L2.takes0 (ta_cons (tr_var 0) (ta_cons (tr_sub (tr_var 1) tr_int) (ta_cons (tr_var 2) ta_nil)))))) ta_nil))) (tss_cons (ts_if (tb_lt (tr_var 3) tr_int) (tss_one (ts_ret (tr_tup (ta_cons (tr_ix (tr_lst true (ta_cons tr_str (ta_cons tr_str (ta_cons tr_str ta_nil)))) (tr_sub (tr_var 3) tr_int)) (ta_cons (tr_var 4) ta_nil))))) tss_nil) (tss_one (ts_ret (tr_tup (ta_cons tr_str (ta_cons (tr_callV (ok__law_one T) (hr.mono (by omega)) T.m__law_one T.F__law_one.kp T.B__law_one tk (ta_cons (tr_var 0) (ta_cons (tr_add true (tr_var 2) (tr_lst true (ta_cons tr_str ta_nil))) ta_nil))) (ta_cons (tr_var 4) ta_nil)))))))))))
theorem ok__law_item (T : TX P wd K mg A) : ∀ n : Nat, FnOk P wd K mg base (L2.CX P wd) (2 + 1 * n) A.f__law_item A.d__law_item ["pool", "deep", "names"] (SpF K 3 (m__law_item A n))
  | 0 => fn_bad.mono (Nat.zero_le _)
  | n + 1 => (okr__law_item T (L := 2 + 1 * n) (by omega) (ok__law_item T n)).mono (by omega)
theorem ok__law_program (T : TX P wd K mg A) : FnOk P wd K mg base (L2.CX P wd) 15 A.f__law_program A.d__law_program ["pool", "names"] (SpF K 2 (m__law_program A)) :=
  fn_ok T.F__law_program sc__law_program (fun cdv Ar outer s H E B kp hr tk => (tss_one (ts_ret (tr_tuplec T.b_tuple (ta_cons (tr_lcV true 2 [("turn", 2)] kp rfl sc__law_program.nd (ti_rng1 T.b_range (ta_cons (tr_callV (ok__law_take T) (hr.mono (by omega)) T.m__law_take T.F__law_take.kp T.B__law_take tk (ta_cons (tr_var 0) (ta_cons tr_int ta_nil))) ta_nil)) (blk_of (N := nm__law_program) (sc := defScope s__law_program) rfl rfl (by decide +kernel)) rfl (by decide) (fun s H C cl fp => pg_name (i := 2) sc__law_program.nd rfl (Or.inl rfl)) (fun s H C cl fp => tt_nil) (fun s H C cl fp => (tr_callV (ok__law_item T 12) (hr.mono (by omega)) T.m__law_item T.F__law_item.kp T.B__law_item L2.takes0 (ta_cons (tr_var 0) (ta_cons tr_int (ta_cons (tr_var 1) ta_nil)))))) ta_nil)))))
theorem okr__law_word (T : TX P wd K mg A) {L : Nat} {rec : Fn} (hL : 0 ≤ L) (R : FnOk P wd K mg base (L2.CX P wd) L A.f__law_word A.d__law_word ["item"] (SpF K 1 rec)) : FnOk P wd K mg base (L2.CX P wd) (L + 1) A.f__law_word A.d__law_word ["item"] (SpF K 1 (runF 4 (b__law_word A rec))) :=
  fn_ok T.F__law_word sc__law_word (fun cdv Ar outer s H E B kp hr tk => (tss_cons (ts_if (tb_eq hr (tr_ix (tr_var 0) tr_int) tr_str) (tss_one (ts_ret (tr_strc hr T.b_str (ta_cons (tr_ix (tr_var 0) tr_int) ta_nil)))) tss_nil) (tss_cons (ts_if (tb_eq hr (tr_ix (tr_var 0) tr_int) tr_str) (tss_one (ts_ret tr_str)) tss_nil) (tss_cons (ts_if (tb_eq hr (tr_ix (tr_var 0) tr_int) tr_str) (tss_one (ts_ret (tr_ix (tr_var 0) tr_int))) tss_nil) (tss_cons (ts_setLcV true 1 3 [("one", 3)] kp rfl sc__law_word.nd rfl rfl (by rfl) (ti_tup (tr_ix (tr_var 0) (tr_neg tr_int))) (blk_of (N := nm__law_word) (sc := defScope s__law_word) rfl rfl (by decide +kernel)) rfl (by decide) (fun s H C cl fp => pg_name (i := 3) sc__law_word.nd rfl (Or.inl rfl)) (fun s H C cl fp => tt_nil) (fun s H C cl fp => (tr_callV R (hr.mono (by omega)) T.m__law_word T.F__law_word.kp T.B__law_word L2.takes0 (ta_cons (tr_var 3) ta_nil)))) (tss_cons (ts_if (tb_eq hr (tr_ix (tr_var 0) tr_int) tr_str) (tss_one (ts_ret (tr_add true (tr_add true tr_str (tr_join tr_str (tr_var 1))) tr_str))) tss_nil) (tss_cons (ts_set 2 sc__law_word.nd (kp 2) (tr_dget2 hr (tr_dct (tp_cons (key := Sum.inr ("sum" : Str)) pe_str tr_str (tp_cons (key := Sum.inr ("product" : Str)) pe_str tr_str tp_nil))) (tr_ix (tr_var 0) tr_int) (tr_add true (tr_add true tr_str (tr_strc hr T.b_str (ta_cons (tr_ix (tr_var 0) tr_int) ta_nil))) tr_str))) (tss_one (ts_ret (tr_add true (tr_join tr_str (tr_add true (tr_lst true (ta_cons (tr_var 2) ta_nil)) (tr_var 1))) tr_str))))))))))
theorem ok__law_word (T : TX P wd K mg A) : ∀ n : Nat, FnOk P wd K mg base (L2.CX P wd) (0 + 1 * n) A.f__law_word A.d__law_word ["item"] (SpF K 1 (m__law_word A n))
  | 0 => fn_bad.mono (Nat.zero_le _)
  | n + 1 => (okr__law_word T (L := 0 + 1 * n) (by omega) (ok__law_word T n)).mono (by omega)
theorem ok__law_text (T : TX P wd K mg A) : FnOk P wd K mg base (L2.CX P wd) 13 A.f__law_text A.d__law_text ["program"] (SpF K 1 (m__law_text A)) :=
  fn_ok T.F__law_text sc__law_text (fun cdv Ar outer s H E B kp hr tk => (tss_one (ts_ret (tr_join tr_str (tr_lcV true 1 [("item", 1)] kp rfl sc__law_text.nd (ti_tup (tr_var 0)) (blk_of (N := nm__law_text) (sc := defScope s__law_text) rfl rfl (by decide +kernel)) rfl (by decide) (fun s H C cl fp => pg_name (i := 1) sc__law_text.nd rfl (Or.inl rfl)) (fun s H C cl fp => tt_nil) (fun s H C cl fp => (tr_callV (ok__law_word T 12) (hr.mono (by omega)) T.m__law_word T.F__law_word.kp T.B__law_word L2.takes0 (ta_cons (tr_var 1) ta_nil))))))))
theorem okr__law_spans (T : TX P wd K mg A) {L : Nat} {rec : Fn} (hL : 12 ≤ L) (R : FnOk P wd K mg base (L2.CX P wd) L A.f__law_spans A.d__law_spans ["items", "path", "first"] (SpF K 3 rec)) : FnOk P wd K mg base (L2.CX P wd) (L + 1) A.f__law_spans A.d__law_spans ["items", "path", "first"] (SpF K 3 (runF 9 (b__law_spans A rec))) :=
  fn_ok T.F__law_spans sc__law_spans (fun cdv Ar outer s H E B kp hr tk => (tss_cons (ts_set 3 sc__law_spans.nd (kp 3) (tr_lst false ta_nil)) (tss_cons (ts_for (passes_of rfl) (ti_rng1 T.b_range (ta_cons (tr_len T.b_len (ta_cons (tr_var 0) ta_nil)) ta_nil)) (tg_name 4 sc__law_spans.nd (kp 4)) (tss_cons (ts_par 5 6 kp (ta_cons (tr_ix (tr_var 0) (tr_var 4)) (ta_cons (tr_add true (tr_var 1) (tr_tup (ta_cons (tr_var 4) ta_nil))) ta_nil)) (fun _ h => ps_par (by rfl) sc__law_spans.nd rfl rfl (by decide) rfl rfl h (by rfl))) (tss_cons (ts_set 7 sc__law_spans.nd (kp 7) (tr_add true (tr_var 2) (tr_len T.b_len (ta_cons (tr_callV (ok__law_word T 12) (hr.mono (by omega)) T.m__law_word T.F__law_word.kp T.B__law_word tk (ta_cons (tr_var 5) ta_nil)) ta_nil)))) (tss_cons (ts_drop (tr_append (tr_var 3) (tr_tup (ta_cons (tr_var 6) (ta_cons (tr_var 2) (ta_cons (tr_var 7) ta_nil)))))) (tss_cons (ts_if (tb_in (tr_ix (tr_var 5) tr_int) (tr_tup (ta_cons tr_str (ta_cons tr_str (ta_cons tr_str (ta_cons tr_str ta_nil)))))) (tss_cons (ts_set 8 sc__law_spans.nd (kp 8) (tr_dget2 hr (tr_dct (tp_cons (key := Sum.inr ("block" : Str)) pe_str tr_int (tp_cons (key := Sum.inr ("sum" : Str)) pe_str tr_int (tp_cons (key := Sum.inr ("product" : Str)) pe_str tr_int tp_nil)))) (tr_ix (tr_var 5) tr_int) tr_int)) (tss_cons (ts_set 8 sc__law_spans.nd (kp 8) (tr_if (tb_ne hr (tr_ix (tr_var 5) tr_int) tr_str) (tr_var 8) (tr_add true (tr_len T.b_len (ta_cons (tr_ix (tr_var 5) tr_int) ta_nil)) tr_int))) (tss_one (ts_set 3 sc__law_spans.nd (kp 3) (tr_add false (tr_var 3) (tr_callV R (hr.mono (by omega)) T.m__law_spans T.F__law_spans.kp T.B__law_spans tk (ta_cons (tr_ix (tr_var 5) (tr_neg tr_int)) (ta_cons (tr_var 6) (ta_cons (tr_add false (tr_var 2) (tr_var 8)) ta_nil))))))))) tss_nil) (tss_one (ts_set 2 sc__law_spans.nd (kp 2) (tr_add true (tr_var 7) tr_int)))))))) (tss_one (ts_ret (tr_var 3))))))
theorem ok__law_spans (T : TX P wd K mg A) : ∀ n : Nat, FnOk P wd K mg base (L2.CX P wd) (12 + 1 * n) A.f__law_spans A.d__law_spans ["items", "path", "first"] (SpF K 3 (m__law_spans A n))
  | 0 => fn_bad.mono (Nat.zero_le _)
  | n + 1 => (okr__law_spans T (L := 12 + 1 * n) (by omega) (ok__law_spans T n)).mono (by omega)
theorem ok_ItemRow___init__ (T : TX P wd K mg A) : FnOk P wd K mg base (L2.CX P wd) 1 A.f_ItemRow___init__ A.d_ItemRow___init__ ["self", "path", "first", "kind", "value"] (SpF K 5 (m_ItemRow___init__ A)) :=
  fn_ok T.F_ItemRow___init__ sc_ItemRow___init__ (fun cdv Ar outer s H E B kp hr tk => (tss_cons (ts_fld T.f_own_path (tr_var 0) (tr_var 1)) (tss_cons (ts_fld T.f_own_first (tr_var 0) (tr_var 2)) (tss_cons (ts_fld T.f_own_behind (tr_var 0) (tr_var 2)) (tss_cons (ts_fld T.f_own_kind (tr_var 0) (tr_var 3)) (tss_one (ts_fld T.f_own_value (tr_var 0) (tr_var 4))))))))
theorem ok_TextWalk_new_row (T : TX P wd K mg A) : FnOk P wd K mg base (L2.CX P wd) 3 A.f_TextWalk_new_row A.d_TextWalk_new_row ["self", "first", "kind", "value"] (SpF K 4 (m_TextWalk_new_row A)) :=
  fn_ok T.F_TextWalk_new_row sc_TextWalk_new_row (fun cdv Ar outer s H E B kp hr tk => (tss_cons (ts_set 4 sc_TextWalk_new_row.nd (kp 4) (tr_ix (tr_fld T.f_own_pile (tr_var 0)) (tr_neg tr_int))) (tss_cons (ts_set 5 sc_TextWalk_new_row.nd (kp 5) (tr_makeV T.K_ItemRow (ok_ItemRow___init__ T) (hr.mono (by omega)) T.c_ItemRow T.B_ItemRow___init__ tk (ta_cons (tr_tup (ta_star (tr_fld T.f_own_path (tr_var 4)) (ta_cons (tr_fld T.f_own_many (tr_var 4)) ta_nil))) (ta_cons (tr_var 1) (ta_cons (tr_var 2) (ta_cons (tr_var 3) ta_nil)))))) (tss_cons (ts_faug in_add T.f_own_many (tr_var 4) tr_int) (tss_cons (ts_drop (tr_append (tr_fld T.f_own_rows (tr_var 0)) (tr_var 5))) (tss_one (ts_ret (tr_var 5))))))))
theorem ok_TextWalk_next_in (T : TX P wd K mg A) : FnOk P wd K mg base (L2.CX P wd) 1 A.f_TextWalk_next_in A.d_TextWalk_next_in ["self", "signs"] (SpF K 2 (m_TextWalk_next_in A)) :=
  fn_ok T.F_TextWalk_next_in sc_TextWalk_next_in (fun cdv Ar outer s H E B kp hr tk => (tss_one (ts_ret (tr_and (tr_lt (tr_fld T.f_own_at (tr_var 0)) (tr_len T.b_len (ta_cons (tr_fld T.f_own_text (tr_var 0)) ta_nil))) (tr_one (tr_sg (tr_ix (tr_fld T.f_own_text (tr_var 0)) (tr_fld T.f_own_at (tr_var 0))) (tr_var 1)))))))
theorem ok_TextWalk_go_over_number (T : TX P wd K mg A) : FnOk P wd K mg base (L2.CX P wd) 2 A.f_TextWalk_go_over_number A.d_TextWalk_go_over_number ["self"] (SpF K 1 (m_TextWalk_go_over_number A)) :=
  fn_ok T.F_TextWalk_go_over_number sc_TextWalk_go_over_number (fun cdv Ar outer s H E B kp hr tk => (tss_cons (ts_set 1 sc_TextWalk_go_over_number.nd (kp 1) (tr_fld T.f_own_at (tr_var 0))) (tss_cons (ts_faug in_add T.f_own_at (tr_var 0) tr_int) (tss_cons (ts_if (tb_w (tw_and (tb_ne hr (tr_ix (tr_fld T.f_own_text (tr_var 0)) (tr_var 1)) tr_str) (tw_and1 (tb_val (tr_methV (ok_TextWalk_next_in T) (hr.mono (by omega)) T.h_next_in T.B_TextWalk_next_in tk (tr_var 0) (ta_cons (tr_gstr T.g_TEXT_FIGURES.choose_spec) ta_nil)))))) (tss_one (ts_faug in_add T.f_own_at (tr_var 0) tr_int)) tss_nil) (tss_one (ts_ret (tr_intc T.b_int (ta_cons (tr_sl true (tr_fld T.f_own_text (tr_var 0)) (to_so (tr_var 1)) (to_so (tr_fld T.f_own_at (tr_var 0)))) ta_nil))))))))
theorem ok_TextWalk_go_over_name (T : TX P wd K mg A) : FnOk P wd K mg base (L2.CX P wd) 2 A.f_TextWalk_go_over_name A.d_TextWalk_go_over_name ["self"] (SpF K 1 (m_TextWalk_go_over_name A)) :=
  fn_ok T.F_TextWalk_go_over_name sc_TextWalk_go_over_name (fun cdv Ar outer s H E B kp hr tk => (tss_cons (ts_set 1 sc_TextWalk_go_over_name.nd (kp 1) (tr_fld T.f_own_at (tr_var 0))) (tss_cons (ts_while big (passes_of rfl) (tb_w (tw_and (tb_lt (tr_sub (tr_fld T.f_own_at (tr_var 0)) (tr_var 1)) (tr_gint T.g_MOST_LETTERS.choose_spec)) (tw_and1 (tb_val (tr_methV (ok_TextWalk_next_in T) (hr.mono (by omega)) T.h_next_in T.B_TextWalk_next_in tk (tr_var 0) (ta_cons (tr_gstr T.g_TEXT_LETTERS.choose_spec) ta_nil)))))) (tss_one (ts_faug in_add T.f_own_at (tr_var 0) tr_int))) (tss_cons (ts_if (tb_val (tr_methV (ok_TextWalk_next_in T) (hr.mono (by omega)) T.h_next_in T.B_TextWalk_next_in tk (tr_var 0) (ta_cons (tr_gstr T.g_LEADING_FIGURES.choose_spec) ta_nil))) (tss_cons (ts_faug in_add T.f_own_at (tr_var 0) tr_int) (tss_one (ts_if (tb_val (tr_methV (ok_TextWalk_next_in T) (hr.mono (by omega)) T.h_next_in T.B_TextWalk_next_in tk (tr_var 0) (ta_cons (tr_gstr T.g_TEXT_FIGURES.choose_spec) ta_nil))) (tss_one (ts_faug in_add T.f_own_at (tr_var 0) tr_int)) tss_nil))) tss_nil) (tss_one (ts_ret (tr_sl true (tr_fld T.f_own_text (tr_var 0)) (to_so (tr_var 1)) (to_so (tr_fld T.f_own_at (tr_var 0))))))))))
theorem ok_TextWalk_small_item (T : TX P wd K mg A) : FnOk P wd K mg base (L2.CX P wd) 4 A.f_TextWalk_small_item A.d_TextWalk_small_item ["self"] (SpF K 1 (m_TextWalk_small_item A)) :=
  fn_ok T.F_TextWalk_small_item sc_TextWalk_small_item (fun cdv Ar outer s H E B kp hr tk => (tss_cons (ts_set 1 sc_TextWalk_small_item.nd (kp 1) (tr_fld T.f_own_at (tr_var 0))) (tss_cons (ts_if (tb_val (tr_methV (ok_TextWalk_next_in T) (hr.mono (by omega)) T.h_next_in T.B_TextWalk_next_in tk (tr_var 0) (ta_cons (tr_gstr T.g_TEXT_FIGURES.choose_spec) ta_nil))) (tss_one (ts_set 2 sc_TextWalk_small_item.nd (kp 2) (tr_methV (ok_TextWalk_new_row T) (hr.mono (by omega)) T.h_new_row T.B_TextWalk_new_row tk (tr_var 0) (ta_cons (tr_var 1) (ta_cons tr_str (ta_cons (tr_meth0V (ok_TextWalk_go_over_number T) (hr.mono (by omega)) T.h_go_over_number T.B_TextWalk_go_over_number tk (tr_var 0)) ta_nil)))))) (tss_one (ts_if (tb_val (tr_methV (ok_TextWalk_next_in T) (hr.mono (by omega)) T.h_next_in T.B_TextWalk_next_in tk (tr_var 0) (ta_cons (tr_gstr T.g_TEXT_LETTERS.choose_spec) ta_nil))) (tss_one (ts_set 2 sc_TextWalk_small_item.nd (kp 2) (tr_methV (ok_TextWalk_new_row T) (hr.mono (by omega)) T.h_new_row T.B_TextWalk_new_row tk (tr_var 0) (ta_cons (tr_var 1) (ta_cons tr_str (ta_cons (tr_meth0V (ok_TextWalk_go_over_name T) (hr.mono (by omega)) T.h_go_over_name T.B_TextWalk_go_over_name tk (tr_var 0)) ta_nil)))))) (tss_one (ts_if (tb_val (tr_methV (ok_TextWalk_next_in T) (hr.mono (by omega)) T.h_next_in T.B_TextWalk_next_in tk (tr_var 0) (ta_cons tr_str ta_nil))) (tss_cons (ts_faug in_add T.f_own_at (tr_var 0) tr_int) (tss_one (ts_set 2 sc_TextWalk_small_item.nd (kp 2) (tr_methV (ok_TextWalk_new_row T) (hr.mono (by omega)) T.h_new_row T.B_TextWalk_new_row tk (tr_var 0) (ta_cons (tr_var 1) (ta_cons tr_str (ta_cons tr_non ta_nil))))))) (tss_one (ts_ret tr_non))))))) (tss_cons (ts_fld T.f_own_behind (tr_var 2) (tr_fld T.f_own_at (tr_var 0))) (tss_one (ts_ret (tr_var 2)))))))
theorem ok_OpenItem___init__ (T : TX P wd K mg A) : FnOk P wd K mg base (L2.CX P wd) 1 A.f_OpenItem___init__ A.d_OpenItem___init__ ["self", "path", "row"] (SpF K 3 (m_OpenItem___init__ A)) :=
  fn_ok T.F_OpenItem___init__ sc_OpenItem___init__ (fun cdv Ar outer s H E B kp hr tk => (tss_cons (ts_fld T.f_own_path (tr_var 0) (tr_var 1)) (tss_cons (ts_fld T.f_own_row (tr_var 0) (tr_var 2)) (tss_one (ts_fld T.f_own_many (tr_var 0) tr_int)))))
theorem ok_TextWalk___init__ (T : TX P wd K mg A) : FnOk P wd K mg base (L2.CX P wd) 3 A.f_TextWalk___init__ A.d_TextWalk___init__ ["self", "text"] (SpF K 2 (m_TextWalk___init__ A)) :=
  fn_ok T.F_TextWalk___init__ sc_TextWalk___init__ (fun cdv Ar outer s H E B kp hr tk => (tss_cons (ts_fld T.f_own_text (tr_var 0) (tr_var 1)) (tss_cons (ts_fld T.f_own_at (tr_var 0) tr_int) (tss_cons (ts_fld T.f_own_rows (tr_var 0) (tr_lst false ta_nil)) (tss_one (ts_fld T.f_own_pile (tr_var 0) (tr_lst false (ta_cons (tr_makeV T.K_OpenItem (ok_OpenItem___init__ T) (hr.mono (by omega)) T.c_OpenItem T.B_OpenItem___init__ tk (ta_cons (tr_tup ta_nil) (ta_cons tr_non ta_nil))) ta_nil))))))))
theorem ok_TextWalk_refuse_here (T : TX P wd K mg A) : FnOk P wd K mg base (L2.CX P wd) 3 A.f_TextWalk_refuse_here A.d_TextWalk_refuse_here ["self"] (SpF K 1 (m_TextWalk_refuse_here A)) :=
  fn_ok T.F_TextWalk_refuse_here sc_TextWalk_refuse_here (fun cdv Ar outer s H E B kp hr tk => (tss_one (ts_raise tk (fun ta ha => pmk_sup T.S_BadText T.I_BadText T.Y_BadText (ok_BadText___init__ T) (hr.mono (by omega)) T.B_BadText___init__ (passes_call tk (fun _ _ _ _ h => h.elim)) rfl T.c_BadText ha) (tr_fld T.f_own_at (tr_var 0)))))
theorem ok_TextWalk_begin_first (T : TX P wd K mg A) {L : Nat} {rec : Fn} (hL : 4 ≤ L) (R : FnOk P wd K mg base (L2.CX P wd) L A.f_TextWalk_begin_item A.d_TextWalk_begin_item ["self"] (SpF K 1 rec)) : FnOk P wd K mg base (L2.CX P wd) (L + 1) A.f_TextWalk_begin_first A.d_TextWalk_begin_first ["self"] (SpF K 1 (m_TextWalk_begin_first A rec)) :=
  fn_ok T.F_TextWalk_begin_first sc_TextWalk_begin_first (fun cdv Ar outer s H E B kp hr tk => (tss_cons (ts_set 1 sc_TextWalk_begin_first.nd (kp 1) (tr_ix (tr_fld T.f_own_pile (tr_var 0)) (tr_neg tr_int))) (tss_cons (ts_set 2 sc_TextWalk_begin_first.nd (kp 2) (tr_meth0V (ok_TextWalk_small_item T) (hr.mono (by omega)) T.h_small_item T.B_TextWalk_small_item tk (tr_var 0))) (tss_one (ts_if (tb_is (tr_var 2) tr_non) (tss_one (ts_drop (tr_meth0V R (hr.mono (by omega)) T.h_begin_item T.B_TextWalk_begin_item tk (tr_var 0)))) (tss_one (ts_if (tb_w (tw_and (tb_eq hr (tr_fld T.f_own_kind (tr_var 2)) tr_str) (tw_and1 (tb_eq hr (tr_sl true (tr_fld T.f_own_text (tr_var 0)) (to_so (tr_fld T.f_own_at (tr_var 0))) (to_so (tr_add true (tr_fld T.f_own_at (tr_var 0)) tr_int))) tr_str)))) (tss_cons (ts_drop (tr_pop (tr_fld T.f_own_rows (tr_var 0)))) (tss_cons (ts_fld T.f_own_many (tr_var 1) tr_int) (tss_cons (ts_fld T.f_own_kind (tr_fld T.f_own_row (tr_var 1)) tr_str) (tss_cons (ts_fld T.f_own_value (tr_fld T.f_own_row (tr_var 1)) (tr_fld T.f_own_value (tr_var 2))) (tss_one (ts_faug in_add T.f_own_at (tr_var 0) tr_int)))))) tss_nil)))))))
theorem okr_TextWalk_begin_item (T : TX P wd K mg A) {L : Nat} {rec : Fn} (hL : 4 ≤ L) (R : FnOk P wd K mg base (L2.CX P wd) L A.f_TextWalk_begin_item A.d_TextWalk_begin_item ["self"] (SpF K 1 rec)) : FnOk P wd K mg base (L2.CX P wd) (L + 2) A.f_TextWalk_begin_item A.d_TextWalk_begin_item ["self"] (SpF K 1 (runF 2 (b_TextWalk_begin_item A rec))) :=
  fn_ok T.F_TextWalk_begin_item sc_TextWalk_begin_item (fun cdv Ar outer s H E B kp hr tk => (tss_cons (ts_if (tb_isn (tr_meth0V (ok_TextWalk_small_item T) (hr.mono (by omega)) T.h_small_item T.B_TextWalk_small_item tk (tr_var 0)) tr_non) (tss_one ts_retN) tss_nil) (tss_cons (ts_if (tb_not (tb_val (tr_methV (ok_TextWalk_next_in T) (hr.mono (by omega)) T.h_next_in T.B_TextWalk_next_in tk (tr_var 0) (ta_cons tr_str ta_nil)))) (tss_one (ts_drop (tr_meth0V (ok_TextWalk_refuse_here T) (hr.mono (by omega)) T.h_refuse_here T.B_TextWalk_refuse_here tk (tr_var 0)))) tss_nil) (tss_cons (ts_set 1 sc_TextWalk_begin_item.nd (kp 1) (tr_methV (ok_TextWalk_new_row T) (hr.mono (by omega)) T.h_new_row T.B_TextWalk_new_row tk (tr_var 0) (ta_cons (tr_fld T.f_own_at (tr_var 0)) (ta_cons tr_str (ta_cons tr_non ta_nil))))) (tss_cons (ts_faug in_add T.f_own_at (tr_var 0) tr_int) (tss_cons (ts_drop (tr_append (tr_fld T.f_own_pile (tr_var 0)) (tr_makeV T.K_OpenItem (ok_OpenItem___init__ T) (hr.mono (by omega)) T.c_OpenItem T.B_OpenItem___init__ tk (ta_cons (tr_fld T.f_own_path (tr_var 1)) (ta_cons (tr_var 1) ta_nil))))) (tss_one (ts_if (tb_val (tr_methV (ok_TextWalk_next_in T) (hr.mono (by omega)) T.h_next_in T.B_TextWalk_next_in tk (tr_var 0) (ta_cons tr_str ta_nil))) (tss_cons (ts_fld T.f_own_kind (tr_var 1) (tr_kd T.d_SIGNED_KINDS (tr_gref T.g_SIGNED_KINDS) (tr_ix (tr_fld T.f_own_text (tr_var 0)) (tr_fld T.f_own_at (tr_var 0))))) (tss_one (ts_faug in_add T.f_own_at (tr_var 0) tr_int))) (tss_one (ts_if (tb_not (tb_val (tr_methV (ok_TextWalk_next_in T) (hr.mono (by omega)) T.h_next_in T.B_TextWalk_next_in tk (tr_var 0) (ta_cons tr_str ta_nil)))) (tss_one (ts_drop (tr_meth0V (ok_TextWalk_begin_first T (L := L) (by omega) R) (hr.mono (by omega)) T.h_begin_first T.B_TextWalk_begin_first tk (tr_var 0)))) tss_nil))))))))))
theorem ok_TextWalk_begin_item (T : TX P wd K mg A) : ∀ n : Nat, FnOk P wd K mg base (L2.CX P wd) (4 + 2 * n) A.f_TextWalk_begin_item A.d_TextWalk_begin_item ["self"] (SpF K 1 (m_TextWalk_begin_item A n))
  | 0 => fn_bad.mono (Nat.zero_le _)
  | n + 1 => (okr_TextWalk_begin_item T (L := 4 + 2 * n) (by omega) (ok_TextWalk_begin_item T n)).mono (by omega)
theorem ok_TextWalk_close_item (T : TX P wd K mg A) : FnOk P wd K mg base (L2.CX P wd) 1 A.f_TextWalk_close_item A.d_TextWalk_close_item ["self"] (SpF K 1 (m_TextWalk_close_item A)) :=
  fn_ok T.F_TextWalk_close_item sc_TextWalk_close_item (fun cdv Ar outer s H E B kp hr tk => (tss_cons (ts_faug in_add T.f_own_at (tr_var 0) tr_int) (tss_cons (ts_fld T.f_own_behind (tr_fld T.f_own_row (tr_ix (tr_fld T.f_own_pile (tr_var 0)) (tr_neg tr_int))) (tr_fld T.f_own_at (tr_var 0))) (tss_one (ts_drop (tr_pop (tr_fld T.f_own_pile (tr_var 0))))))))
theorem ok_TextWalk_go_on (T : TX P wd K mg A) : FnOk P wd K mg base (L2.CX P wd) 29 A.f_TextWalk_go_on A.d_TextWalk_go_on ["self"] (SpF K 1 (m_TextWalk_go_on A)) :=
  fn_ok T.F_TextWalk_go_on sc_TextWalk_go_on (fun cdv Ar outer s H E B kp hr tk => (tss_cons (ts_if (tb_w (tw_and (tb_eq hr (tr_fld T.f_own_at (tr_var 0)) (tr_len T.b_len (ta_cons (tr_fld T.f_own_text (tr_var 0)) ta_nil))) (tw_and1 (tb_eq hr (tr_len T.b_len (ta_cons (tr_fld T.f_own_pile (tr_var 0)) ta_nil)) tr_int)))) (tss_one (ts_ret tr_bl)) tss_nil) (tss_cons (ts_if (tb_w (tw_and (tb_val (tr_methV (ok_TextWalk_next_in T) (hr.mono (by omega)) T.h_next_in T.B_TextWalk_next_in tk (tr_var 0) (ta_cons tr_str ta_nil))) (tw_and1 (tb_gt (tr_len T.b_len (ta_cons (tr_fld T.f_own_pile (tr_var 0)) ta_nil)) tr_int)))) (tss_one (ts_drop (tr_meth0V (ok_TextWalk_close_item T) (hr.mono (by omega)) T.h_close_item T.B_TextWalk_close_item tk (tr_var 0)))) (tss_one (ts_if (tb_val (tr_methV (ok_TextWalk_next_in T) (hr.mono (by omega)) T.h_next_in T.B_TextWalk_next_in tk (tr_var 0) (ta_cons tr_str ta_nil))) (tss_cons (ts_faug in_add T.f_own_at (tr_var 0) tr_int) (tss_one (ts_drop (tr_meth0V (ok_TextWalk_begin_item T 12) (hr.mono (by omega)) T.h_begin_item T.B_TextWalk_begin_item tk (tr_var 0))))) (tss_one (ts_drop (tr_meth0V (ok_TextWalk_refuse_here T) (hr.mono (by omega)) T.h_refuse_here T.B_TextWalk_refuse_here tk (tr_var 0))))))) (tss_one (ts_ret tr_bl)))))
theorem ok_TextWalk_walked_rows (T : TX P wd K mg A) : FnOk P wd K mg base (L2.CX P wd) 30 A.f_TextWalk_walked_rows A.d_TextWalk_walked_rows ["self"] (SpF K 1 (m_TextWalk_walked_rows A)) :=
  fn_ok T.F_TextWalk_walked_rows sc_TextWalk_walked_rows (fun cdv Ar outer s H E B kp hr tk => (tss_cons (ts_if (tb_ne hr (tr_fld T.f_own_text (tr_var 0)) tr_str) (tss_cons (ts_drop (tr_meth0V (ok_TextWalk_begin_item T 12) (hr.mono (by omega)) T.h_begin_item T.B_TextWalk_begin_item tk (tr_var 0))) (tss_cons (ts_set 1 sc_TextWalk_walked_rows.nd (kp 1) tr_bl) (tss_one (ts_while big (passes_of rfl) (tb_val (tr_var 1)) (tss_one (ts_set 1 sc_TextWalk_walked_rows.nd (kp 1) (tr_meth0V (ok_TextWalk_go_on T) (hr.mono (by omega)) T.h_go_on T.B_TextWalk_go_on tk (tr_var 0)))))))) tss_nil) (tss_one (ts_ret (tr_fld T.f_own_rows (tr_var 0))))))
theorem ok_rows_of_text (T : TX P wd K mg A) : FnOk P wd K mg base (L2.CX P wd) 31 A.f_rows_of_text A.d_rows_of_text ["text"] (SpF K 1 (m_rows_of_text A)) :=
  fn_ok T.F_rows_of_text sc_rows_of_text (fun cdv Ar outer s H E B kp hr tk => (tss_cons (ts_if (tb_not (tb_val (tr_isi (tr_var 0) T.b_isinstance T.b_str (by decide +kernel)))) (tss_one (ts_raise tk (fun ta ha => pmk_sup T.S_BadText T.I_BadText T.Y_BadText (ok_BadText___init__ T) (hr.mono (by omega)) T.B_BadText___init__ (passes_call tk (fun _ _ _ _ h => h.elim)) rfl T.c_BadText ha) tr_int)) tss_nil) (tss_one (ts_ret (tr_meth0V (ok_TextWalk_walked_rows T) (hr.mono (by omega)) T.h_walked_rows T.B_TextWalk_walked_rows tk (tr_makeV T.K_TextWalk (ok_TextWalk___init__ T) (hr.mono (by omega)) T.c_TextWalk T.B_TextWalk___init__ tk (ta_cons (tr_var 0) ta_nil)))))))
theorem ok_spans_of (T : TX P wd K mg A) : FnOk P wd K mg base (L2.CX P wd) 32 A.f_spans_of A.d_spans_of ["text"] (SpF K 1 (m_spans_of A)) :=
  fn_ok T.F_spans_of sc_spans_of (fun cdv Ar outer s H E B kp hr tk => (tss_one (ts_ret (tr_lcV true 1 [("row", 1)] kp rfl sc_spans_of.nd (ti_seq (tr_callV (ok_rows_of_text T) (hr.mono (by omega)) T.m_rows_of_text T.F_rows_of_text.kp T.B_rows_of_text tk (ta_cons (tr_var 0) ta_nil))) (blk_of (N := nm_spans_of) (sc := defScope s_spans_of) rfl rfl (by decide +kernel)) rfl (by decide) (fun s H C cl fp => pg_name (i := 1) sc_spans_of.nd rfl (Or.inl rfl)) (fun s H C cl fp => tt_nil) (fun s H C cl fp => (tr_tup (ta_cons (tr_fld T.f_own_path (tr_var 1)) (ta_cons (tr_fld T.f_own_first (tr_var 1)) (ta_cons (tr_fld T.f_own_behind (tr_var 1)) ta_nil)))))))))
theorem ok_is_whole (T : TX P wd K mg A) : FnOk P wd K mg base (L2.CX P wd) 1 A.f_is_whole A.d_is_whole ["value"] (SpF K 1 (m_is_whole A)) :=
  fn_ok T.F_is_whole sc_is_whole (fun cdv Ar outer s H E B kp hr tk => (tss_one (ts_ret (tr_and (tr_isi (tr_var 0) T.b_isinstance T.b_int (by decide +kernel)) (tr_one (tr_not (tr_isi (tr_var 0) T.b_isinstance T.b_bool (by decide +kernel))))))))
theorem ok_is_number (T : TX P wd K mg A) : FnOk P wd K mg base (L2.CX P wd) 2 A.f_is_number A.d_is_number ["value", "low", "high"] (SpF K 3 (m_is_number A)) :=
  fn_ok T.F_is_number sc_is_number (fun cdv Ar outer s H E B kp hr tk => (tss_one (ts_ret (tr_and (tr_callV (ok_is_whole T) (hr.mono (by omega)) T.m_is_whole T.F_is_whole.kp T.B_is_whole tk (ta_cons (tr_var 0) ta_nil)) (tr_one (tr_chain op_le so_B0 op_le so_B0 (tr_var 1) (tr_var 0) (tr_var 2)))))))
theorem ok_item_at (T : TX P wd K mg A) : FnOk P wd K mg base (L2.CX P wd) 32 A.f_item_at A.d_item_at ["text", "index"] (SpF K 2 (m_item_at A)) :=
  fn_ok T.F_item_at sc_item_at (fun cdv Ar outer s H E B kp hr tk => (tss_cons (ts_set 2 sc_item_at.nd (kp 2) (tr_callV (ok_rows_of_text T) (hr.mono (by omega)) T.m_rows_of_text T.F_rows_of_text.kp T.B_rows_of_text tk (ta_cons (tr_var 0) ta_nil))) (tss_cons (ts_if (tb_not (tb_val (tr_callV (ok_is_number T) (hr.mono (by omega)) T.m_is_number T.F_is_number.kp T.B_is_number tk (ta_cons (tr_var 1) (ta_cons tr_int (ta_cons (tr_sub (tr_len T.b_len (ta_cons (tr_var 0) ta_nil)) tr_int) ta_nil)))))) (tss_one (ts_raise tk (fun ta ha => pmk_sup T.S_NoIndex T.I_NoIndex T.Y_NoIndex (ok_NoIndex___init__ T) (hr.mono (by omega)) T.B_NoIndex___init__ (passes_call tk (fun _ _ _ _ h => h.elim)) rfl T.c_NoIndex ha) (tr_var 1))) tss_nil) (tss_cons (ts_set 3 sc_item_at.nd (kp 3) (tr_tup ta_nil)) (tss_cons (ts_for (passes_of rfl) (ti_seq (tr_var 2)) (tg_name 4 sc_item_at.nd (kp 4)) (tss_one (ts_if (tb_chain op_le so_B0 op_lt so_B0 (tr_fld T.f_own_first (tr_var 4)) (tr_var 1) (tr_fld T.f_own_behind (tr_var 4))) (tss_one (ts_set 3 sc_item_at.nd (kp 3) (tr_fld T.f_own_path (tr_var 4)))) tss_nil))) (tss_one (ts_ret (tr_var 3))))))))
theorem ok__law_told (T : TX P wd K mg A) : FnOk P wd K mg base (L2.CX P wd) 33 A.f__law_told A.d__law_told ["text", "index"] (SpF K 2 (m__law_told A)) :=
  fn_ok T.F__law_told sc__law_told (fun cdv Ar outer s H E B kp hr tk => (tss_one (ts_try sc__law_told.nd tk (fun W pn xe tk hp => (tss_one (ts_ret (tr_callV (ok_item_at T) (hr.mono (by omega)) T.m_item_at T.F_item_at.kp T.B_item_at tk (ta_cons (tr_var 0) (ta_cons (tr_var 1) ta_nil)))))) (.consAs (i := 2) (mt := mt_NoIndex A) ⟨rfl, rfl, .inl T.c_NoIndex⟩ T.M_NoIndex (kp 2) rfl rfl (fun a oe c dd fs pn B2 e hz hf z => by obtain rfl := mt_NoIndex_eq e; exact (tss_one (ts_ret (tr_lst true (ta_cons tr_str (ta_cons (tr_xf z hz hf T.X_NoIndex T.S_NoIndex.no (pe_var rfl (Or.inl rfl))) ta_nil)))))) (.consAs (i := 2) (mt := mt_BadText A) ⟨rfl, rfl, .inl T.c_BadText⟩ T.M_BadText (kp 2) rfl rfl (fun a oe c dd fs pn B2 e hz hf z => by obtain rfl := mt_BadText_eq e; exact (tss_one (ts_ret (tr_lst true (ta_cons tr_str (ta_cons (tr_xf z hz hf T.X_BadText T.S_BadText.no (pe_var rfl (Or.inl rfl))) ta_nil)))))) .nil)))))
theorem ok_law (T : TX P wd K mg A) : FnOk P wd K mg base (L2.CX P wd) 34 A.f_law A.d_law ["script"] (SpF K 1 (m_law A)) :=
  fn_ok T.F_law sc_law (fun cdv Ar outer s H E B kp hr tk => (tss_cons (ts_for (passes_of rfl) (ti_rng1 T.b_range (ta_cons (tr_max2 T.b_max (ta_cons tr_int (ta_cons (tr_min2 T.b_min (ta_cons tr_int (ta_cons (tr_len T.b_len (ta_cons (tr_var 0) ta_nil)) ta_nil))) ta_nil))) ta_nil)) (tg_name 1 sc_law.nd (kp 1)) (tss_cons (ts_set 2 sc_law.nd (kp 2) (tr_callV (ok__law_pool T) (hr.mono (by omega)) T.m__law_pool T.F__law_pool.kp T.B__law_pool tk (ta_cons (tr_var 0) (ta_cons (tr_var 1) ta_nil)))) (tss_cons (ts_set 3 sc_law.nd (kp 3) (tr_callV (ok__law_program T) (hr.mono (by omega)) T.m__law_program T.F__law_program.kp T.B__law_program tk (ta_cons (tr_var 2) (ta_cons (tr_lst true (ta_cons tr_str (ta_cons tr_str (ta_cons tr_str (ta_cons tr_str (ta_cons tr_str (ta_cons tr_str (ta_cons tr_str ta_nil)))))))) ta_nil)))) (tss_cons (ts_par 4 5 kp (ta_cons (tr_callV (ok__law_text T) (hr.mono (by omega)) T.m__law_text T.F__law_text.kp T.B__law_text tk (ta_cons (tr_var 3) ta_nil)) (ta_cons (tr_callV (ok__law_spans T 12) (hr.mono (by omega)) T.m__law_spans T.F__law_spans.kp T.B__law_spans tk (ta_cons (tr_var 3) (ta_cons (tr_tup ta_nil) (ta_cons tr_int ta_nil)))) ta_nil)) (fun _ h => ps_par (by rfl) sc_law.nd rfl rfl (by decide) rfl rfl h (by rfl))) (tss_cons (ts_if (tb_ne hr (tr_callV (ok_spans_of T) (hr.mono (by omega)) T.m_spans_of T.F_spans_of.kp T.B_spans_of tk (ta_cons (tr_var 4) ta_nil)) (tr_var 5)) (tss_one (ts_ret tr_bl)) tss_nil) (tss_cons (ts_for (passes_of rfl) (ti_rng1 T.b_range (ta_cons (tr_if (tb_ne hr (tr_var 5) (tr_lst true ta_nil)) tr_int tr_int) ta_nil)) (tg_name 6 sc_law.nd (kp 6)) (tss_cons (ts_set 7 sc_law.nd (kp 7) (tr_callV (ok__law_one T) (hr.mono (by omega)) T.m__law_one T.F__law_one.kp T.B__law_one tk (ta_cons (tr_var 2) (ta_cons (tr_var 5) ta_nil)))) (tss_one (ts_for (passes_of rfl) (ti_seq (tr_lst true (ta_cons (tr_ix (tr_var 7) tr_int) (ta_cons (tr_sub (tr_ix (tr_var 7) tr_int) tr_int) (ta_cons (tr_ix (tr_var 7) tr_int) ta_nil))))) (tg_name 8 sc_law.nd (kp 8)) (tss_cons (ts_set 9 sc_law.nd (kp 9) (tr_if (tb_lt (tr_var 8) (tr_len T.b_len (ta_cons (tr_var 4) ta_nil))) (tr_tup ta_nil) (tr_lst true (ta_cons tr_str (ta_cons (tr_var 8) ta_nil))))) (tss_cons (ts_for (passes_of rfl) (ti_seq (tr_var 5)) (tg_tup [10, 11, 12] kp (pg_tup rfl (pgs_cons (pg_name (i := 10) sc_law.nd rfl (Or.inl rfl)) (pgs_cons (pg_name (i := 11) sc_law.nd rfl (Or.inl rfl)) (pgs_cons (pg_name (i := 12) sc_law.nd rfl (Or.inl rfl)) pgs_nil))))) (tss_one (ts_set 9 sc_law.nd (kp 9) (tr_if (tb_chain op_le so_B0 op_lt so_B0 (tr_var 11) (tr_var 8) (tr_var 12)) (tr_var 10) (tr_var 9))))) (tss_one (ts_if (tb_ne hr (tr_callV (ok__law_told T) (hr.mono (by omega)) T.m__law_told T.F__law_told.kp T.B__law_told tk (ta_cons (tr_var 4) (ta_cons (tr_var 8) ta_nil))) (tr_var 9)) (tss_one (ts_ret tr_bl)) tss_nil)))))))) (tss_cons (ts_for (passes_of rfl) (ti_seq (tr_lst true (ta_cons (tr_neg tr_int) (ta_cons (tr_len T.b_len (ta_cons (tr_var 4) ta_nil)) (ta_cons tr_bl (ta_cons tr_non (ta_cons tr_str (ta_cons (tr_pow tr_int tr_int) ta_nil)))))))) (tg_name 13 sc_law.nd (kp 13)) (tss_one (ts_if (tb_ne hr (tr_callV (ok__law_told T) (hr.mono (by omega)) T.m__law_told T.F__law_told.kp T.B__law_told tk (ta_cons (tr_var 4) (ta_cons (tr_var 13) ta_nil))) (tr_lst true (ta_cons tr_str (ta_cons (tr_var 13) ta_nil)))) (tss_one (ts_ret tr_bl)) tss_nil))) (tss_one (ts_if (tb_w (tw_or (tb_ne hr (tr_callV (ok__law_told T) (hr.mono (by omega)) T.m__law_told T.F__law_told.kp T.B__law_told tk (ta_cons (tr_add true (tr_var 4) tr_str) (ta_cons tr_int ta_nil))) (tr_lst true (ta_cons tr_str (ta_cons (tr_add true (tr_len T.b_len (ta_cons (tr_var 4) ta_nil)) (tr_intc T.b_int (ta_cons (tr_ne hr (tr_var 4) tr_str) ta_nil))) ta_nil)))) (tw_or1 (tb_ne hr (tr_callV (ok__law_told T) (hr.mono (by omega)) T.m__law_told T.F__law_told.kp T.B__law_told tk (ta_cons tr_non (ta_cons tr_non ta_nil))) (tr_lst true (ta_cons tr_str (ta_cons tr_int ta_nil))))))) (tss_one (ts_ret tr_bl)) tss_nil))))))))) (tss_one (ts_ret tr_bl))))
end
end K68
end

section
set_option Elab.async false
set_option linter.all false
set_option maxRecDepth 100000
set_option maxHeartbeats 4000000
namespace K68
open PySem PySem.Spec PyProof.Rows L2 Fx
theorem exm_of {K : PySem.W.Frag} {c C : Addr} {cd : ClassData} {b : Bool} (h1 : PySem.W.subIn K (.ref C) (.type "BaseException") = some true) (h2 : PySem.W.clsIn K C = some cd) (h3 : PySem.W.typeIn K (.ref C) = some (.type "type")) (h4 : PySem.W.subIn K (.ref c) (.ref C) = some b) : PySem.W.exmOne K (.ref c) (.ref C) = some b := by
  have e : PySem.W.exmOne K (.ref c) (.ref C) = if (PySem.W.subIn K (.ref C) (.type "BaseException") == some true) = true then (if ((PySem.W.clsIn K C).isSome && PySem.W.typeIn K (.ref C) == some (.type "type")) = true then PySem.W.subIn K (.ref c) (.ref C) else none) else none := rfl
  rw [e, h1, h2, h3, h4]
  rfl
/-- the written part -/
abbrev TXf (l : PySem.W.OpenLaw) (w : World) (K : PySem.W.Frag) (mg : Str → Option Value) (A : Ads) : Prop := TX l.prog w K mg A
theorem all_mk {l : PySem.W.OpenLaw} {w : World} {K : PySem.W.Frag} {h : Heap} {mg : Str → Option Value} {fa : Addr} {C_OpenItem C_ItemRow C_TextWalk C_NoIndex C_BadText f__law_pool f__law_take f__law_one f__law_item f__law_program f__law_word f__law_text f__law_spans f_ItemRow___init__ f_TextWalk_new_row f_TextWalk_next_in f_TextWalk_go_over_number f_TextWalk_go_over_name f_TextWalk_small_item f_OpenItem___init__ f_TextWalk___init__ f_BadText___init__ cda_BadText___init__ cc_BadText___init__ f_TextWalk_refuse_here f_TextWalk_begin_first f_TextWalk_begin_item f_TextWalk_close_item f_TextWalk_go_on f_TextWalk_walked_rows f_rows_of_text f_spans_of f_is_whole f_is_number f_NoIndex___init__ cda_NoIndex___init__ cc_NoIndex___init__ f_item_at f__law_told f_law g_SIGNED_KINDS : Addr}
    {oc__law_pool kV__law_pool dc__law_pool pm__law_pool ct__law_pool cd__law_pool oc__law_take kV__law_take dc__law_take pm__law_take ct__law_take cd__law_take oc__law_one kV__law_one dc__law_one pm__law_one ct__law_one cd__law_one oc__law_item kV__law_item dc__law_item pm__law_item ct__law_item cd__law_item oc__law_program kV__law_program dc__law_program pm__law_program ct__law_program cd__law_program oc__law_word kV__law_word dc__law_word pm__law_word ct__law_word cd__law_word oc__law_text kV__law_text dc__law_text pm__law_text ct__law_text cd__law_text oc__law_spans kV__law_spans dc__law_spans pm__law_spans ct__law_spans cd__law_spans oc_ItemRow___init__ kV_ItemRow___init__ dc_ItemRow___init__ pm_ItemRow___init__ ct_ItemRow___init__ cd_ItemRow___init__ oc_TextWalk_new_row kV_TextWalk_new_row dc_TextWalk_new_row pm_TextWalk_new_row ct_TextWalk_new_row cd_TextWalk_new_row oc_TextWalk_next_in kV_TextWalk_next_in dc_TextWalk_next_in pm_TextWalk_next_in ct_TextWalk_next_in cd_TextWalk_next_in oc_TextWalk_go_over_number kV_TextWalk_go_over_number dc_TextWalk_go_over_number pm_TextWalk_go_over_number ct_TextWalk_go_over_number cd_TextWalk_go_over_number oc_TextWalk_go_over_name kV_TextWalk_go_over_name dc_TextWalk_go_over_name pm_TextWalk_go_over_name ct_TextWalk_go_over_name cd_TextWalk_go_over_name oc_TextWalk_small_item kV_TextWalk_small_item dc_TextWalk_small_item pm_TextWalk_small_item ct_TextWalk_small_item cd_TextWalk_small_item oc_OpenItem___init__ kV_OpenItem___init__ dc_OpenItem___init__ pm_OpenItem___init__ ct_OpenItem___init__ cd_OpenItem___init__ oc_TextWalk___init__ kV_TextWalk___init__ dc_TextWalk___init__ pm_TextWalk___init__ ct_TextWalk___init__ cd_TextWalk___init__ oc_BadText___init__ kV_BadText___init__ dc_BadText___init__ pm_BadText___init__ ct_BadText___init__ oc_TextWalk_refuse_here kV_TextWalk_refuse_here dc_TextWalk_refuse_here pm_TextWalk_refuse_here ct_TextWalk_refuse_here cd_TextWalk_refuse_here oc_TextWalk_begin_first kV_TextWalk_begin_first dc_TextWalk_begin_first pm_TextWalk_begin_first ct_TextWalk_begin_first cd_TextWalk_begin_first oc_TextWalk_begin_item kV_TextWalk_begin_item dc_TextWalk_begin_item pm_TextWalk_begin_item ct_TextWalk_begin_item cd_TextWalk_begin_item oc_TextWalk_close_item kV_TextWalk_close_item dc_TextWalk_close_item pm_TextWalk_close_item ct_TextWalk_close_item cd_TextWalk_close_item oc_TextWalk_go_on kV_TextWalk_go_on dc_TextWalk_go_on pm_TextWalk_go_on ct_TextWalk_go_on cd_TextWalk_go_on oc_TextWalk_walked_rows kV_TextWalk_walked_rows dc_TextWalk_walked_rows pm_TextWalk_walked_rows ct_TextWalk_walked_rows cd_TextWalk_walked_rows oc_rows_of_text kV_rows_of_text dc_rows_of_text pm_rows_of_text ct_rows_of_text cd_rows_of_text oc_spans_of kV_spans_of dc_spans_of pm_spans_of ct_spans_of cd_spans_of oc_is_whole kV_is_whole dc_is_whole pm_is_whole ct_is_whole cd_is_whole oc_is_number kV_is_number dc_is_number pm_is_number ct_is_number cd_is_number oc_NoIndex___init__ kV_NoIndex___init__ dc_NoIndex___init__ pm_NoIndex___init__ ct_NoIndex___init__ oc_item_at kV_item_at dc_item_at pm_item_at ct_item_at cd_item_at oc__law_told kV__law_told dc__law_told pm__law_told ct__law_told cd__law_told oc_law kV_law dc_law pm_law ct_law cd_law : Value} {od__law_pool an__law_pool od__law_take an__law_take od__law_one an__law_one od__law_item an__law_item od__law_program an__law_program od__law_word an__law_word od__law_text an__law_text od__law_spans an__law_spans od_ItemRow___init__ an_ItemRow___init__ od_TextWalk_new_row an_TextWalk_new_row od_TextWalk_next_in an_TextWalk_next_in od_TextWalk_go_over_number an_TextWalk_go_over_number od_TextWalk_go_over_name an_TextWalk_go_over_name od_TextWalk_small_item an_TextWalk_small_item od_OpenItem___init__ an_OpenItem___init__ od_TextWalk___init__ an_TextWalk___init__ od_BadText___init__ an_BadText___init__ od_TextWalk_refuse_here an_TextWalk_refuse_here od_TextWalk_begin_first an_TextWalk_begin_first od_TextWalk_begin_item an_TextWalk_begin_item od_TextWalk_close_item an_TextWalk_close_item od_TextWalk_go_on an_TextWalk_go_on od_TextWalk_walked_rows an_TextWalk_walked_rows od_rows_of_text an_rows_of_text od_spans_of an_spans_of od_is_whole an_is_whole od_is_number an_is_number od_NoIndex___init__ an_NoIndex___init__ od_item_at an_item_at od__law_told an__law_told od_law an_law : Option Addr} {sl__law_pool sl__law_take sl__law_one sl__law_item sl__law_program sl__law_word sl__law_text sl__law_spans sl_ItemRow___init__ sl_TextWalk_new_row sl_TextWalk_next_in sl_TextWalk_go_over_number sl_TextWalk_go_over_name sl_TextWalk_small_item sl_OpenItem___init__ sl_TextWalk___init__ sl_BadText___init__ sl_TextWalk_refuse_here sl_TextWalk_begin_first sl_TextWalk_begin_item sl_TextWalk_close_item sl_TextWalk_go_on sl_TextWalk_walked_rows sl_rows_of_text sl_spans_of sl_is_whole sl_is_number sl_NoIndex___init__ sl_item_at sl__law_told sl_law : Array (Option Value)}
    {tk_LEADING_FIGURES : Tok} {tk_MOST_LETTERS : Tok} {es_SIGNED_KINDS : Array DictEntry} {en_SIGNED_KINDS : Nat} {tk_SIGNED_KINDS_0 : Tok} {tk_SIGNED_KINDS_1 : Tok} {tk_TEXT_FIGURES : Tok} {tk_TEXT_LETTERS : Tok} {nm_NoIndex q_NoIndex : Str} {ns_NoIndex : Addr} {bs_NoIndex bm_NoIndex sub_NoIndex : List Value} {sn_NoIndex : List Str} {ab_NoIndex : Bool} {col_NoIndex : Option Bool} {dd_NoIndex : Option Addr} {z0_NoIndex z1_NoIndex z2_NoIndex z3_NoIndex z5_NoIndex : Option Value} {vs_NoIndex : Array Value} {file_NoIndex : Str} {tf_NoIndex : Tok} {ccl_NoIndex cl_NoIndex : Value} {cdd_NoIndex cld_NoIndex : Option Addr} {ccs_NoIndex csl_NoIndex : Array (Option Value)} {cdD_NoIndex : ClassData} {nm_BadText q_BadText : Str} {ns_BadText : Addr} {bs_BadText bm_BadText sub_BadText : List Value} {sn_BadText : List Str} {ab_BadText : Bool} {col_BadText : Option Bool} {dd_BadText : Option Addr} {z0_BadText z1_BadText z2_BadText z3_BadText z5_BadText : Option Value} {vs_BadText : Array Value} {file_BadText : Str} {tf_BadText : Tok} {ccl_BadText cl_BadText : Value} {cdd_BadText cld_BadText : Option Addr} {ccs_BadText csl_BadText : Array (Option Value)} {cdD_BadText : ClassData}
    (X : K.In h) (G : h.Ns mainGlobals mg) (hfa : mg "law" = some (.ref fa))
    (aC_OpenItem : PySem.W.nsIn K mainGlobals "OpenItem" = some (some (.ref C_OpenItem)))
    (aC_ItemRow : PySem.W.nsIn K mainGlobals "ItemRow" = some (some (.ref C_ItemRow)))
    (aC_TextWalk : PySem.W.nsIn K mainGlobals "TextWalk" = some (some (.ref C_TextWalk)))
    (aC_NoIndex : PySem.W.nsIn K mainGlobals "NoIndex" = some (some (.ref C_NoIndex)))
    (aC_BadText : PySem.W.nsIn K mainGlobals "BadText" = some (some (.ref C_BadText)))
    (a__law_pool : PySem.W.nsIn K mainGlobals "_law_pool" = some (some (.ref f__law_pool)))
    (l__law_pool : K.lookup f__law_pool = some ⟨oc__law_pool, od__law_pool, .func (PySem.W.fnOf "_law_pool" "_law_pool" (defArgs s__law_pool) (defBody s__law_pool) (defScope s__law_pool) .none kV__law_pool dc__law_pool pm__law_pool an__law_pool cd__law_pool ct__law_pool), sl__law_pool⟩)
    (c__law_pool : PySem.W.codeIn K cd__law_pool "_law_pool" = true)
    (k__law_pool : PySem.W.keepIn K (.ref f__law_pool) = true)
    (a__law_take : PySem.W.nsIn K mainGlobals "_law_take" = some (some (.ref f__law_take)))
    (l__law_take : K.lookup f__law_take = some ⟨oc__law_take, od__law_take, .func (PySem.W.fnOf "_law_take" "_law_take" (defArgs s__law_take) (defBody s__law_take) (defScope s__law_take) .none kV__law_take dc__law_take pm__law_take an__law_take cd__law_take ct__law_take), sl__law_take⟩)
    (c__law_take : PySem.W.codeIn K cd__law_take "_law_take" = true)
    (k__law_take : PySem.W.keepIn K (.ref f__law_take) = true)
    (a__law_one : PySem.W.nsIn K mainGlobals "_law_one" = some (some (.ref f__law_one)))
    (l__law_one : K.lookup f__law_one = some ⟨oc__law_one, od__law_one, .func (PySem.W.fnOf "_law_one" "_law_one" (defArgs s__law_one) (defBody s__law_one) (defScope s__law_one) .none kV__law_one dc__law_one pm__law_one an__law_one cd__law_one ct__law_one), sl__law_one⟩)
    (c__law_one : PySem.W.codeIn K cd__law_one "_law_one" = true)
    (k__law_one : PySem.W.keepIn K (.ref f__law_one) = true)
    (a__law_item : PySem.W.nsIn K mainGlobals "_law_item" = some (some (.ref f__law_item)))
    (l__law_item : K.lookup f__law_item = some ⟨oc__law_item, od__law_item, .func (PySem.W.fnOf "_law_item" "_law_item" (defArgs s__law_item) (defBody s__law_item) (defScope s__law_item) .none kV__law_item dc__law_item pm__law_item an__law_item cd__law_item ct__law_item), sl__law_item⟩)
    (c__law_item : PySem.W.codeIn K cd__law_item "_law_item" = true)
    (k__law_item : PySem.W.keepIn K (.ref f__law_item) = true)
    (a__law_program : PySem.W.nsIn K mainGlobals "_law_program" = some (some (.ref f__law_program)))
    (l__law_program : K.lookup f__law_program = some ⟨oc__law_program, od__law_program, .func (PySem.W.fnOf "_law_program" "_law_program" (defArgs s__law_program) (defBody s__law_program) (defScope s__law_program) .none kV__law_program dc__law_program pm__law_program an__law_program cd__law_program ct__law_program), sl__law_program⟩)
    (c__law_program : PySem.W.codeIn K cd__law_program "_law_program" = true)
    (k__law_program : PySem.W.keepIn K (.ref f__law_program) = true)
    (a__law_word : PySem.W.nsIn K mainGlobals "_law_word" = some (some (.ref f__law_word)))
    (l__law_word : K.lookup f__law_word = some ⟨oc__law_word, od__law_word, .func (PySem.W.fnOf "_law_word" "_law_word" (defArgs s__law_word) (defBody s__law_word) (defScope s__law_word) .none kV__law_word dc__law_word pm__law_word an__law_word cd__law_word ct__law_word), sl__law_word⟩)
    (c__law_word : PySem.W.codeIn K cd__law_word "_law_word" = true)
    (k__law_word : PySem.W.keepIn K (.ref f__law_word) = true)
    (a__law_text : PySem.W.nsIn K mainGlobals "_law_text" = some (some (.ref f__law_text)))
    (l__law_text : K.lookup f__law_text = some ⟨oc__law_text, od__law_text, .func (PySem.W.fnOf "_law_text" "_law_text" (defArgs s__law_text) (defBody s__law_text) (defScope s__law_text) .none kV__law_text dc__law_text pm__law_text an__law_text cd__law_text ct__law_text), sl__law_text⟩)
    (c__law_text : PySem.W.codeIn K cd__law_text "_law_text" = true)
    (k__law_text : PySem.W.keepIn K (.ref f__law_text) = true)
    (a__law_spans : PySem.W.nsIn K mainGlobals "_law_spans" = some (some (.ref f__law_spans)))
    (l__law_spans : K.lookup f__law_spans = some ⟨oc__law_spans, od__law_spans, .func (PySem.W.fnOf "_law_spans" "_law_spans" (defArgs s__law_spans) (defBody s__law_spans) (defScope s__law_spans) .none kV__law_spans dc__law_spans pm__law_spans an__law_spans cd__law_spans ct__law_spans), sl__law_spans⟩)
    (c__law_spans : PySem.W.codeIn K cd__law_spans "_law_spans" = true)
    (k__law_spans : PySem.W.keepIn K (.ref f__law_spans) = true)
    (a_ItemRow___init__ : PySem.W.findIn K (.ref C_ItemRow) "__init__" = some (some (.ref f_ItemRow___init__)))
    (i_ItemRow___init__ : PySem.W.isFn K (.ref f_ItemRow___init__) = true)
    (l_ItemRow___init__ : K.lookup f_ItemRow___init__ = some ⟨oc_ItemRow___init__, od_ItemRow___init__, .func (PySem.W.fnOf "__init__" "ItemRow.__init__" (defArgs s_ItemRow___init__) (defBody s_ItemRow___init__) (defScope s_ItemRow___init__) .none kV_ItemRow___init__ dc_ItemRow___init__ pm_ItemRow___init__ an_ItemRow___init__ cd_ItemRow___init__ ct_ItemRow___init__), sl_ItemRow___init__⟩)
    (c_ItemRow___init__ : PySem.W.codeIn K cd_ItemRow___init__ "ItemRow.__init__" = true)
    (k_ItemRow___init__ : PySem.W.keepIn K (.ref f_ItemRow___init__) = true)
    (a_TextWalk_new_row : PySem.W.findIn K (.ref C_TextWalk) "new_row" = some (some (.ref f_TextWalk_new_row)))
    (i_TextWalk_new_row : PySem.W.isFn K (.ref f_TextWalk_new_row) = true)
    (l_TextWalk_new_row : K.lookup f_TextWalk_new_row = some ⟨oc_TextWalk_new_row, od_TextWalk_new_row, .func (PySem.W.fnOf "new_row" "TextWalk.new_row" (defArgs s_TextWalk_new_row) (defBody s_TextWalk_new_row) (defScope s_TextWalk_new_row) .none kV_TextWalk_new_row dc_TextWalk_new_row pm_TextWalk_new_row an_TextWalk_new_row cd_TextWalk_new_row ct_TextWalk_new_row), sl_TextWalk_new_row⟩)
    (c_TextWalk_new_row : PySem.W.codeIn K cd_TextWalk_new_row "TextWalk.new_row" = true)
    (k_TextWalk_new_row : PySem.W.keepIn K (.ref f_TextWalk_new_row) = true)
    (a_TextWalk_next_in : PySem.W.findIn K (.ref C_TextWalk) "next_in" = some (some (.ref f_TextWalk_next_in)))
    (i_TextWalk_next_in : PySem.W.isFn K (.ref f_TextWalk_next_in) = true)
    (l_TextWalk_next_in : K.lookup f_TextWalk_next_in = some ⟨oc_TextWalk_next_in, od_TextWalk_next_in, .func (PySem.W.fnOf "next_in" "TextWalk.next_in" (defArgs s_TextWalk_next_in) (defBody s_TextWalk_next_in) (defScope s_TextWalk_next_in) .none kV_TextWalk_next_in dc_TextWalk_next_in pm_TextWalk_next_in an_TextWalk_next_in cd_TextWalk_next_in ct_TextWalk_next_in), sl_TextWalk_next_in⟩)
    (c_TextWalk_next_in : PySem.W.codeIn K cd_TextWalk_next_in "TextWalk.next_in" = true)
    (k_TextWalk_next_in : PySem.W.keepIn K (.ref f_TextWalk_next_in) = true)
    (a_TextWalk_go_over_number : PySem.W.findIn K (.ref C_TextWalk) "go_over_number" = some (some (.ref f_TextWalk_go_over_number)))
    (i_TextWalk_go_over_number : PySem.W.isFn K (.ref f_TextWalk_go_over_number) = true)
    (l_TextWalk_go_over_number : K.lookup f_TextWalk_go_over_number = some ⟨oc_TextWalk_go_over_number, od_TextWalk_go_over_number, .func (PySem.W.fnOf "go_over_number" "TextWalk.go_over_number" (defArgs s_TextWalk_go_over_number) (defBody s_TextWalk_go_over_number) (defScope s_TextWalk_go_over_number) .none kV_TextWalk_go_over_number dc_TextWalk_go_over_number pm_TextWalk_go_over_number an_TextWalk_go_over_number cd_TextWalk_go_over_number ct_TextWalk_go_over_number), sl_TextWalk_go_over_number⟩)
    (c_TextWalk_go_over_number : PySem.W.codeIn K cd_TextWalk_go_over_number "TextWalk.go_over_number" = true)
    (k_TextWalk_go_over_number : PySem.W.keepIn K (.ref f_TextWalk_go_over_number) = true)
    (a_TextWalk_go_over_name : PySem.W.findIn K (.ref C_TextWalk) "go_over_name" = some (some (.ref f_TextWalk_go_over_name)))
    (i_TextWalk_go_over_name : PySem.W.isFn K (.ref f_TextWalk_go_over_name) = true)
    (l_TextWalk_go_over_name : K.lookup f_TextWalk_go_over_name = some ⟨oc_TextWalk_go_over_name, od_TextWalk_go_over_name, .func (PySem.W.fnOf "go_over_name" "TextWalk.go_over_name" (defArgs s_TextWalk_go_over_name) (defBody s_TextWalk_go_over_name) (defScope s_TextWalk_go_over_name) .none kV_TextWalk_go_over_name dc_TextWalk_go_over_name pm_TextWalk_go_over_name an_TextWalk_go_over_name cd_TextWalk_go_over_name ct_TextWalk_go_over_name), sl_TextWalk_go_over_name⟩)
    (c_TextWalk_go_over_name : PySem.W.codeIn K cd_TextWalk_go_over_name "TextWalk.go_over_name" = true)
    (k_TextWalk_go_over_name : PySem.W.keepIn K (.ref f_TextWalk_go_over_name) = true)
    (a_TextWalk_small_item : PySem.W.findIn K (.ref C_TextWalk) "small_item" = some (some (.ref f_TextWalk_small_item)))
    (i_TextWalk_small_item : PySem.W.isFn K (.ref f_TextWalk_small_item) = true)
    (l_TextWalk_small_item : K.lookup f_TextWalk_small_item = some ⟨oc_TextWalk_small_item, od_TextWalk_small_item, .func (PySem.W.fnOf "small_item" "TextWalk.small_item" (defArgs s_TextWalk_small_item) (defBody s_TextWalk_small_item) (defScope s_TextWalk_small_item) .none kV_TextWalk_small_item dc_TextWalk_small_item pm_TextWalk_small_item an_TextWalk_small_item cd_TextWalk_small_item ct_TextWalk_small_item), sl_TextWalk_small_item⟩)
    (c_TextWalk_small_item : PySem.W.codeIn K cd_TextWalk_small_item "TextWalk.small_item" = true)
    (k_TextWalk_small_item : PySem.W.keepIn K (.ref f_TextWalk_small_item) = true)
    (a_OpenItem___init__ : PySem.W.findIn K (.ref C_OpenItem) "__init__" = some (some (.ref f_OpenItem___init__)))
    (i_OpenItem___init__ : PySem.W.isFn K (.ref f_OpenItem___init__) = true)
    (l_OpenItem___init__ : K.lookup f_OpenItem___init__ = some ⟨oc_OpenItem___init__, od_OpenItem___init__, .func (PySem.W.fnOf "__init__" "OpenItem.__init__" (defArgs s_OpenItem___init__) (defBody s_OpenItem___init__) (defScope s_OpenItem___init__) .none kV_OpenItem___init__ dc_OpenItem___init__ pm_OpenItem___init__ an_OpenItem___init__ cd_OpenItem___init__ ct_OpenItem___init__), sl_OpenItem___init__⟩)
    (c_OpenItem___init__ : PySem.W.codeIn K cd_OpenItem___init__ "OpenItem.__init__" = true)
    (k_OpenItem___init__ : PySem.W.keepIn K (.ref f_OpenItem___init__) = true)
    (a_TextWalk___init__ : PySem.W.findIn K (.ref C_TextWalk) "__init__" = some (some (.ref f_TextWalk___init__)))
    (i_TextWalk___init__ : PySem.W.isFn K (.ref f_TextWalk___init__) = true)
    (l_TextWalk___init__ : K.lookup f_TextWalk___init__ = some ⟨oc_TextWalk___init__, od_TextWalk___init__, .func (PySem.W.fnOf "__init__" "TextWalk.__init__" (defArgs s_TextWalk___init__) (defBody s_TextWalk___init__) (defScope s_TextWalk___init__) .none kV_TextWalk___init__ dc_TextWalk___init__ pm_TextWalk___init__ an_TextWalk___init__ cd_TextWalk___init__ ct_TextWalk___init__), sl_TextWalk___init__⟩)
    (c_TextWalk___init__ : PySem.W.codeIn K cd_TextWalk___init__ "TextWalk.__init__" = true)
    (k_TextWalk___init__ : PySem.W.keepIn K (.ref f_TextWalk___init__) = true)
    (a_BadText___init__ : PySem.W.findIn K (.ref C_BadText) "__init__" = some (some (.ref f_BadText___init__)))
    (i_BadText___init__ : PySem.W.isFn K (.ref f_BadText___init__) = true)
    (l_BadText___init__ : K.lookup f_BadText___init__ = some ⟨oc_BadText___init__, od_BadText___init__, .func (PySem.W.ksFn "__init__" "BadText.__init__" (defArgs s_BadText___init__) (defBody s_BadText___init__) (defScope s_BadText___init__) .none kV_BadText___init__ dc_BadText___init__ pm_BadText___init__ an_BadText___init__ (.ref cda_BadText___init__) ct_BadText___init__ cc_BadText___init__), sl_BadText___init__⟩)
    (c_BadText___init__ : PySem.W.codeIn K (.ref cda_BadText___init__) "BadText.__init__" = true)
    (k_BadText___init__ : PySem.W.keepIn K (.ref f_BadText___init__) = true)
    (a_TextWalk_refuse_here : PySem.W.findIn K (.ref C_TextWalk) "refuse_here" = some (some (.ref f_TextWalk_refuse_here)))
    (i_TextWalk_refuse_here : PySem.W.isFn K (.ref f_TextWalk_refuse_here) = true)
    (l_TextWalk_refuse_here : K.lookup f_TextWalk_refuse_here = some ⟨oc_TextWalk_refuse_here, od_TextWalk_refuse_here, .func (PySem.W.fnOf "refuse_here" "TextWalk.refuse_here" (defArgs s_TextWalk_refuse_here) (defBody s_TextWalk_refuse_here) (defScope s_TextWalk_refuse_here) .none kV_TextWalk_refuse_here dc_TextWalk_refuse_here pm_TextWalk_refuse_here an_TextWalk_refuse_here cd_TextWalk_refuse_here ct_TextWalk_refuse_here), sl_TextWalk_refuse_here⟩)
    (c_TextWalk_refuse_here : PySem.W.codeIn K cd_TextWalk_refuse_here "TextWalk.refuse_here" = true)
    (k_TextWalk_refuse_here : PySem.W.keepIn K (.ref f_TextWalk_refuse_here) = true)
    (a_TextWalk_begin_first : PySem.W.findIn K (.ref C_TextWalk) "begin_first" = some (some (.ref f_TextWalk_begin_first)))
    (i_TextWalk_begin_first : PySem.W.isFn K (.ref f_TextWalk_begin_first) = true)
    (l_TextWalk_begin_first : K.lookup f_TextWalk_begin_first = some ⟨oc_TextWalk_begin_first, od_TextWalk_begin_first, .func (PySem.W.fnOf "begin_first" "TextWalk.begin_first" (defArgs s_TextWalk_begin_first) (defBody s_TextWalk_begin_first) (defScope s_TextWalk_begin_first) .none kV_TextWalk_begin_first dc_TextWalk_begin_first pm_TextWalk_begin_first an_TextWalk_begin_first cd_TextWalk_begin_first ct_TextWalk_begin_first), sl_TextWalk_begin_first⟩)
    (c_TextWalk_begin_first : PySem.W.codeIn K cd_TextWalk_begin_first "TextWalk.begin_first" = true)
    (k_TextWalk_begin_first : PySem.W.keepIn K (.ref f_TextWalk_begin_first) = true)
    (a_TextWalk_begin_item : PySem.W.findIn K (.ref C_TextWalk) "begin_item" = some (some (.ref f_TextWalk_begin_item)))
    (i_TextWalk_begin_item : PySem.W.isFn K (.ref f_TextWalk_begin_item) = true)
    (l_TextWalk_begin_item : K.lookup f_TextWalk_begin_item = some ⟨oc_TextWalk_begin_item, od_TextWalk_begin_item, .func (PySem.W.fnOf "begin_item" "TextWalk.begin_item" (defArgs s_TextWalk_begin_item) (defBody s_TextWalk_begin_item) (defScope s_TextWalk_begin_item) .none kV_TextWalk_begin_item dc_TextWalk_begin_item pm_TextWalk_begin_item an_TextWalk_begin_item cd_TextWalk_begin_item ct_TextWalk_begin_item), sl_TextWalk_begin_item⟩)
    (c_TextWalk_begin_item : PySem.W.codeIn K cd_TextWalk_begin_item "TextWalk.begin_item" = true)
    (k_TextWalk_begin_item : PySem.W.keepIn K (.ref f_TextWalk_begin_item) = true)
    (a_TextWalk_close_item : PySem.W.findIn K (.ref C_TextWalk) "close_item" = some (some (.ref f_TextWalk_close_item)))
    (i_TextWalk_close_item : PySem.W.isFn K (.ref f_TextWalk_close_item) = true)
    (l_TextWalk_close_item : K.lookup f_TextWalk_close_item = some ⟨oc_TextWalk_close_item, od_TextWalk_close_item, .func (PySem.W.fnOf "close_item" "TextWalk.close_item" (defArgs s_TextWalk_close_item) (defBody s_TextWalk_close_item) (defScope s_TextWalk_close_item) .none kV_TextWalk_close_item dc_TextWalk_close_item pm_TextWalk_close_item an_TextWalk_close_item cd_TextWalk_close_item ct_TextWalk_close_item), sl_TextWalk_close_item⟩)
    (c_TextWalk_close_item : PySem.W.codeIn K cd_TextWalk_close_item "TextWalk.close_item" = true)
    (k_TextWalk_close_item : PySem.W.keepIn K (.ref f_TextWalk_close_item) = true)
    (a_TextWalk_go_on : PySem.W.findIn K (.ref C_TextWalk) "go_on" = some (some (.ref f_TextWalk_go_on)))
    (i_TextWalk_go_on : PySem.W.isFn K (.ref f_TextWalk_go_on) = true)
    (l_TextWalk_go_on : K.lookup f_TextWalk_go_on = some ⟨oc_TextWalk_go_on, od_TextWalk_go_on, .func (PySem.W.fnOf "go_on" "TextWalk.go_on" (defArgs s_TextWalk_go_on) (defBody s_TextWalk_go_on) (defScope s_TextWalk_go_on) .none kV_TextWalk_go_on dc_TextWalk_go_on pm_TextWalk_go_on an_TextWalk_go_on cd_TextWalk_go_on ct_TextWalk_go_on), sl_TextWalk_go_on⟩)
    (c_TextWalk_go_on : PySem.W.codeIn K cd_TextWalk_go_on "TextWalk.go_on" = true)
    (k_TextWalk_go_on : PySem.W.keepIn K (.ref f_TextWalk_go_on) = true)
    (a_TextWalk_walked_rows : PySem.W.findIn K (.ref C_TextWalk) "walked_rows" = some (some (.ref f_TextWalk_walked_rows)))
    (i_TextWalk_walked_rows : PySem.W.isFn K (.ref f_TextWalk_walked_rows) = true)
    (l_TextWalk_walked_rows : K.lookup f_TextWalk_walked_rows = some ⟨oc_TextWalk_walked_rows, od_TextWalk_walked_rows, .func (PySem.W.fnOf "walked_rows" "TextWalk.walked_rows" (defArgs s_TextWalk_walked_rows) (defBody s_TextWalk_walked_rows) (defScope s_TextWalk_walked_rows) .none kV_TextWalk_walked_rows dc_TextWalk_walked_rows pm_TextWalk_walked_rows an_TextWalk_walked_rows cd_TextWalk_walked_rows ct_TextWalk_walked_rows), sl_TextWalk_walked_rows⟩)
    (c_TextWalk_walked_rows : PySem.W.codeIn K cd_TextWalk_walked_rows "TextWalk.walked_rows" = true)
    (k_TextWalk_walked_rows : PySem.W.keepIn K (.ref f_TextWalk_walked_rows) = true)
    (a_rows_of_text : PySem.W.nsIn K mainGlobals "rows_of_text" = some (some (.ref f_rows_of_text)))
    (l_rows_of_text : K.lookup f_rows_of_text = some ⟨oc_rows_of_text, od_rows_of_text, .func (PySem.W.fnOf "rows_of_text" "rows_of_text" (defArgs s_rows_of_text) (defBody s_rows_of_text) (defScope s_rows_of_text) .none kV_rows_of_text dc_rows_of_text pm_rows_of_text an_rows_of_text cd_rows_of_text ct_rows_of_text), sl_rows_of_text⟩)
    (c_rows_of_text : PySem.W.codeIn K cd_rows_of_text "rows_of_text" = true)
    (k_rows_of_text : PySem.W.keepIn K (.ref f_rows_of_text) = true)
    (a_spans_of : PySem.W.nsIn K mainGlobals "spans_of" = some (some (.ref f_spans_of)))
    (l_spans_of : K.lookup f_spans_of = some ⟨oc_spans_of, od_spans_of, .func (PySem.W.fnOf "spans_of" "spans_of" (defArgs s_spans_of) (defBody s_spans_of) (defScope s_spans_of) .none kV_spans_of dc_spans_of pm_spans_of an_spans_of cd_spans_of ct_spans_of), sl_spans_of⟩)
    (c_spans_of : PySem.W.codeIn K cd_spans_of "spans_of" = true)
    (k_spans_of : PySem.W.keepIn K (.ref f_spans_of) = true)
    (a_is_whole : PySem.W.nsIn K mainGlobals "is_whole" = some (some (.ref f_is_whole)))
    (l_is_whole : K.lookup f_is_whole = some ⟨oc_is_whole, od_is_whole, .func (PySem.W.fnOf "is_whole" "is_whole" (defArgs s_is_whole) (defBody s_is_whole) (defScope s_is_whole) .none kV_is_whole dc_is_whole pm_is_whole an_is_whole cd_is_whole ct_is_whole), sl_is_whole⟩)
    (c_is_whole : PySem.W.codeIn K cd_is_whole "is_whole" = true)
    (k_is_whole : PySem.W.keepIn K (.ref f_is_whole) = true)
    (a_is_number : PySem.W.nsIn K mainGlobals "is_number" = some (some (.ref f_is_number)))
    (l_is_number : K.lookup f_is_number = some ⟨oc_is_number, od_is_number, .func (PySem.W.fnOf "is_number" "is_number" (defArgs s_is_number) (defBody s_is_number) (defScope s_is_number) .none kV_is_number dc_is_number pm_is_number an_is_number cd_is_number ct_is_number), sl_is_number⟩)
    (c_is_number : PySem.W.codeIn K cd_is_number "is_number" = true)
    (k_is_number : PySem.W.keepIn K (.ref f_is_number) = true)
    (a_NoIndex___init__ : PySem.W.findIn K (.ref C_NoIndex) "__init__" = some (some (.ref f_NoIndex___init__)))
    (i_NoIndex___init__ : PySem.W.isFn K (.ref f_NoIndex___init__) = true)
    (l_NoIndex___init__ : K.lookup f_NoIndex___init__ = some ⟨oc_NoIndex___init__, od_NoIndex___init__, .func (PySem.W.ksFn "__init__" "NoIndex.__init__" (defArgs s_NoIndex___init__) (defBody s_NoIndex___init__) (defScope s_NoIndex___init__) .none kV_NoIndex___init__ dc_NoIndex___init__ pm_NoIndex___init__ an_NoIndex___init__ (.ref cda_NoIndex___init__) ct_NoIndex___init__ cc_NoIndex___init__), sl_NoIndex___init__⟩)
    (c_NoIndex___init__ : PySem.W.codeIn K (.ref cda_NoIndex___init__) "NoIndex.__init__" = true)
    (k_NoIndex___init__ : PySem.W.keepIn K (.ref f_NoIndex___init__) = true)
    (a_item_at : PySem.W.nsIn K mainGlobals "item_at" = some (some (.ref f_item_at)))
    (l_item_at : K.lookup f_item_at = some ⟨oc_item_at, od_item_at, .func (PySem.W.fnOf "item_at" "item_at" (defArgs s_item_at) (defBody s_item_at) (defScope s_item_at) .none kV_item_at dc_item_at pm_item_at an_item_at cd_item_at ct_item_at), sl_item_at⟩)
    (c_item_at : PySem.W.codeIn K cd_item_at "item_at" = true)
    (k_item_at : PySem.W.keepIn K (.ref f_item_at) = true)
    (a__law_told : PySem.W.nsIn K mainGlobals "_law_told" = some (some (.ref f__law_told)))
    (l__law_told : K.lookup f__law_told = some ⟨oc__law_told, od__law_told, .func (PySem.W.fnOf "_law_told" "_law_told" (defArgs s__law_told) (defBody s__law_told) (defScope s__law_told) .none kV__law_told dc__law_told pm__law_told an__law_told cd__law_told ct__law_told), sl__law_told⟩)
    (c__law_told : PySem.W.codeIn K cd__law_told "_law_told" = true)
    (k__law_told : PySem.W.keepIn K (.ref f__law_told) = true)
    (a_law : PySem.W.nsIn K mainGlobals "law" = some (some (.ref f_law)))
    (l_law : K.lookup f_law = some ⟨oc_law, od_law, .func (PySem.W.fnOf "law" "law" (defArgs s_law) (defBody s_law) (defScope s_law) .none kV_law dc_law pm_law an_law cd_law ct_law), sl_law⟩)
    (c_law : PySem.W.codeIn K cd_law "law" = true)
    (k_law : PySem.W.keepIn K (.ref f_law) = true)
    (pg_OpenItem : PySem.W.plainGet K C_OpenItem Str.empty = true)
    (hd_OpenItem : PySem.W.hasDictIn K C_OpenItem = true)
    (po_OpenItem : PySem.W.plainOver K C_OpenItem = true)
    (sa_OpenItem : PySem.W.findIn K (.ref C_OpenItem) "__setattr__" = some (some (.builtin "object.__setattr__")))
    (mk_OpenItem : PySem.W.makesIn K C_OpenItem = true)
    (kc_OpenItem : PySem.W.keepIn K (.ref C_OpenItem) = true)
    (n_OpenItem_own_many : PySem.W.findIn K (.ref C_OpenItem) "own_many" = some none)
    (n_OpenItem_own_path : PySem.W.findIn K (.ref C_OpenItem) "own_path" = some none)
    (n_OpenItem_own_row : PySem.W.findIn K (.ref C_OpenItem) "own_row" = some none)
    (pg_ItemRow : PySem.W.plainGet K C_ItemRow Str.empty = true)
    (hd_ItemRow : PySem.W.hasDictIn K C_ItemRow = true)
    (po_ItemRow : PySem.W.plainOver K C_ItemRow = true)
    (sa_ItemRow : PySem.W.findIn K (.ref C_ItemRow) "__setattr__" = some (some (.builtin "object.__setattr__")))
    (mk_ItemRow : PySem.W.makesIn K C_ItemRow = true)
    (kc_ItemRow : PySem.W.keepIn K (.ref C_ItemRow) = true)
    (n_ItemRow_own_behind : PySem.W.findIn K (.ref C_ItemRow) "own_behind" = some none)
    (n_ItemRow_own_first : PySem.W.findIn K (.ref C_ItemRow) "own_first" = some none)
    (n_ItemRow_own_kind : PySem.W.findIn K (.ref C_ItemRow) "own_kind" = some none)
    (n_ItemRow_own_path : PySem.W.findIn K (.ref C_ItemRow) "own_path" = some none)
    (n_ItemRow_own_value : PySem.W.findIn K (.ref C_ItemRow) "own_value" = some none)
    (pg_TextWalk : PySem.W.plainGet K C_TextWalk Str.empty = true)
    (hd_TextWalk : PySem.W.hasDictIn K C_TextWalk = true)
    (po_TextWalk : PySem.W.plainOver K C_TextWalk = true)
    (sa_TextWalk : PySem.W.findIn K (.ref C_TextWalk) "__setattr__" = some (some (.builtin "object.__setattr__")))
    (mk_TextWalk : PySem.W.makesIn K C_TextWalk = true)
    (kc_TextWalk : PySem.W.keepIn K (.ref C_TextWalk) = true)
    (n_TextWalk_own_at : PySem.W.findIn K (.ref C_TextWalk) "own_at" = some none)
    (n_TextWalk_own_pile : PySem.W.findIn K (.ref C_TextWalk) "own_pile" = some none)
    (n_TextWalk_own_rows : PySem.W.findIn K (.ref C_TextWalk) "own_rows" = some none)
    (n_TextWalk_own_text : PySem.W.findIn K (.ref C_TextWalk) "own_text" = some none)
    (ag_LEADING_FIGURES : PySem.W.nsIn K mainGlobals "LEADING_FIGURES" = some (some (.str "123456789" tk_LEADING_FIGURES)))
    (ag_MOST_LETTERS : PySem.W.nsIn K mainGlobals "MOST_LETTERS" = some (some (.int 4 tk_MOST_LETTERS)))
    (ag_SIGNED_KINDS : PySem.W.nsIn K mainGlobals "SIGNED_KINDS" = some (some (.ref g_SIGNED_KINDS)))
    (lg_SIGNED_KINDS : K.lookup g_SIGNED_KINDS = some ⟨.type "dict", none, .dict es_SIGNED_KINDS en_SIGNED_KINDS, #[]⟩)
    (hk_SIGNED_KINDS : PySem.W.KeysLit w.params es_SIGNED_KINDS.toList)
    (v_SIGNED_KINDS_0 : PySem.W.nsIn K g_SIGNED_KINDS "+" = some (some (.str "sum" tk_SIGNED_KINDS_0)))
    (v_SIGNED_KINDS_1 : PySem.W.nsIn K g_SIGNED_KINDS "*" = some (some (.str "product" tk_SIGNED_KINDS_1)))
    (ag_TEXT_FIGURES : PySem.W.nsIn K mainGlobals "TEXT_FIGURES" = some (some (.str "0123456789" tk_TEXT_FIGURES)))
    (ag_TEXT_LETTERS : PySem.W.nsIn K mainGlobals "TEXT_LETTERS" = some (some (.str "abcdefghijklmnopqrstuvwxyz" tk_TEXT_LETTERS)))
    (ab_bool : PySem.W.nsIn K mainGlobals "bool" = some none)
    (ab_int : PySem.W.nsIn K mainGlobals "int" = some none)
    (ab_isinstance : PySem.W.nsIn K mainGlobals "isinstance" = some none)
    (ab_len : PySem.W.nsIn K mainGlobals "len" = some none)
    (ab_max : PySem.W.nsIn K mainGlobals "max" = some none)
    (ab_min : PySem.W.nsIn K mainGlobals "min" = some none)
    (ab_range : PySem.W.nsIn K mainGlobals "range" = some none)
    (ab_str : PySem.W.nsIn K mainGlobals "str" = some none)
    (ab_tuple : PySem.W.nsIn K mainGlobals "tuple" = some none)
    (asup : PySem.W.nsIn K mainGlobals "super" = some none)
    (aany : PySem.W.nsIn K cStatics "thirdparty.any" = some none)
    (htop : (l.prog.main.scope.names.lookup ("super" : Str)).isSome = false)
    (xl_NoIndex : K.lookup C_NoIndex = some (excClassObj nm_NoIndex q_NoIndex C_NoIndex ns_NoIndex bs_NoIndex bm_NoIndex true sn_NoIndex sub_NoIndex ab_NoIndex col_NoIndex dd_NoIndex z0_NoIndex z1_NoIndex z2_NoIndex z3_NoIndex z5_NoIndex "ValueError.__new__"))
    (xr_NoIndex : PySem.HandSPX.refsVE bm_NoIndex = true)
    (xs_NoIndex : PySem.W.findIn K (.ref C_NoIndex) "__setattr__" = some (some (.builtin "object.__setattr__")))
    (xb_NoIndex : PySem.W.subIn K (.ref C_NoIndex) (.type "BaseException") = some true)
    (xt_NoIndex : PySem.W.typeIn K (.ref C_NoIndex) = some (.type "type"))
    (xk_NoIndex : PySem.W.keepIn K (.ref C_NoIndex) = true)
    (xv_NoIndex : PySem.W.subIn K (.ref C_NoIndex) (.type "ValueError") = some true)
    (xu_NoIndex : PySem.W.ks_superIn K C_NoIndex C_NoIndex "__init__" = some (some (.builtin "ValueError.__init__")))
    (xm_NoIndex : PySem.W.mroIn K C_NoIndex (.ref C_NoIndex) = some true)
    (xn_NoIndex : PySem.W.findIn K (.ref C_NoIndex) "told" = some none)
    (xy_NoIndex : PySem.W.typeIn K (.ref f_NoIndex___init__) = some (.type "function"))
    (xa_NoIndex : PySem.W.findIn K (.ref C_NoIndex) "__getattribute__" = some (some (.builtin "BaseException.__getattribute__")))
    (xg_NoIndex : PySem.W.findIn K (.ref C_NoIndex) "__getattr__" = some none)
    (xh_NoIndex : PySem.W.hasDictIn K C_NoIndex = true)
    (xc_NoIndex : K.lookup cda_NoIndex___init__ = some ⟨ccl_NoIndex, cdd_NoIndex, .fields vs_NoIndex, ccs_NoIndex⟩)
    (xf_NoIndex : vs_NoIndex[2]? = some (.str file_NoIndex tf_NoIndex))
    (xi_NoIndex : ((l.prog.main.file : Str) == file_NoIndex) = true)
    (xe_NoIndex : K.lookup cc_NoIndex___init__ = some ⟨cl_NoIndex, cld_NoIndex, .cell (some (.ref C_NoIndex)), csl_NoIndex⟩)
    (xD_NoIndex : PySem.W.clsIn K C_NoIndex = some cdD_NoIndex)
    (xz_NoIndex_NoIndex : PySem.W.subIn K (.ref C_NoIndex) (.ref C_NoIndex) = some true)
    (xz_NoIndex_BadText : PySem.W.subIn K (.ref C_NoIndex) (.ref C_BadText) = some false)
    (xl_BadText : K.lookup C_BadText = some (excClassObj nm_BadText q_BadText C_BadText ns_BadText bs_BadText bm_BadText true sn_BadText sub_BadText ab_BadText col_BadText dd_BadText z0_BadText z1_BadText z2_BadText z3_BadText z5_BadText "ValueError.__new__"))
    (xr_BadText : PySem.HandSPX.refsVE bm_BadText = true)
    (xs_BadText : PySem.W.findIn K (.ref C_BadText) "__setattr__" = some (some (.builtin "object.__setattr__")))
    (xb_BadText : PySem.W.subIn K (.ref C_BadText) (.type "BaseException") = some true)
    (xt_BadText : PySem.W.typeIn K (.ref C_BadText) = some (.type "type"))
    (xk_BadText : PySem.W.keepIn K (.ref C_BadText) = true)
    (xv_BadText : PySem.W.subIn K (.ref C_BadText) (.type "ValueError") = some true)
    (xu_BadText : PySem.W.ks_superIn K C_BadText C_BadText "__init__" = some (some (.builtin "ValueError.__init__")))
    (xm_BadText : PySem.W.mroIn K C_BadText (.ref C_BadText) = some true)
    (xn_BadText : PySem.W.findIn K (.ref C_BadText) "told" = some none)
    (xy_BadText : PySem.W.typeIn K (.ref f_BadText___init__) = some (.type "function"))
    (xa_BadText : PySem.W.findIn K (.ref C_BadText) "__getattribute__" = some (some (.builtin "BaseException.__getattribute__")))
    (xg_BadText : PySem.W.findIn K (.ref C_BadText) "__getattr__" = some none)
    (xh_BadText : PySem.W.hasDictIn K C_BadText = true)
    (xc_BadText : K.lookup cda_BadText___init__ = some ⟨ccl_BadText, cdd_BadText, .fields vs_BadText, ccs_BadText⟩)
    (xf_BadText : vs_BadText[2]? = some (.str file_BadText tf_BadText))
    (xi_BadText : ((l.prog.main.file : Str) == file_BadText) = true)
    (xe_BadText : K.lookup cc_BadText___init__ = some ⟨cl_BadText, cld_BadText, .cell (some (.ref C_BadText)), csl_BadText⟩)
    (xD_BadText : PySem.W.clsIn K C_BadText = some cdD_BadText)
    (xz_BadText_NoIndex : PySem.W.subIn K (.ref C_BadText) (.ref C_NoIndex) = some false)
    (xz_BadText_BadText : PySem.W.subIn K (.ref C_BadText) (.ref C_BadText) = some true)
    (ne_ItemRow_OpenItem : C_ItemRow ≠ C_OpenItem)
    (ne_TextWalk_OpenItem : C_TextWalk ≠ C_OpenItem)
    (ne_TextWalk_ItemRow : C_TextWalk ≠ C_ItemRow)
    (ne_NoIndex_OpenItem : C_NoIndex ≠ C_OpenItem)
    (ne_NoIndex_ItemRow : C_NoIndex ≠ C_ItemRow)
    (ne_NoIndex_TextWalk : C_NoIndex ≠ C_TextWalk)
    (ne_BadText_OpenItem : C_BadText ≠ C_OpenItem)
    (ne_BadText_ItemRow : C_BadText ≠ C_ItemRow)
    (ne_BadText_TextWalk : C_BadText ≠ C_TextWalk)
    (ne_BadText_NoIndex : C_BadText ≠ C_NoIndex) :
    ∃ A : Ads, A.f_law = fa ∧ TX l.prog w K mg A ∧ ∀ (s : Shared) (v : Value), BindsTo s A.d_law ⟨[v], []⟩ [("script", v)] := by
  have e1 : f_law = fa := by
    have e := hfa.symm.trans (PySem.W.mg_of X G a_law)
    cases e
    rfl
  refine ⟨{ C_OpenItem := C_OpenItem, C_ItemRow := C_ItemRow, C_TextWalk := C_TextWalk, C_NoIndex := C_NoIndex, C_BadText := C_BadText, f__law_pool := f__law_pool, d__law_pool := PySem.W.fnOf "_law_pool" "_law_pool" (defArgs s__law_pool) (defBody s__law_pool) (defScope s__law_pool) .none kV__law_pool dc__law_pool pm__law_pool an__law_pool cd__law_pool ct__law_pool, f__law_take := f__law_take, d__law_take := PySem.W.fnOf "_law_take" "_law_take" (defArgs s__law_take) (defBody s__law_take) (defScope s__law_take) .none kV__law_take dc__law_take pm__law_take an__law_take cd__law_take ct__law_take, f__law_one := f__law_one, d__law_one := PySem.W.fnOf "_law_one" "_law_one" (defArgs s__law_one) (defBody s__law_one) (defScope s__law_one) .none kV__law_one dc__law_one pm__law_one an__law_one cd__law_one ct__law_one, f__law_item := f__law_item, d__law_item := PySem.W.fnOf "_law_item" "_law_item" (defArgs s__law_item) (defBody s__law_item) (defScope s__law_item) .none kV__law_item dc__law_item pm__law_item an__law_item cd__law_item ct__law_item, f__law_program := f__law_program, d__law_program := PySem.W.fnOf "_law_program" "_law_program" (defArgs s__law_program) (defBody s__law_program) (defScope s__law_program) .none kV__law_program dc__law_program pm__law_program an__law_program cd__law_program ct__law_program, f__law_word := f__law_word, d__law_word := PySem.W.fnOf "_law_word" "_law_word" (defArgs s__law_word) (defBody s__law_word) (defScope s__law_word) .none kV__law_word dc__law_word pm__law_word an__law_word cd__law_word ct__law_word, f__law_text := f__law_text, d__law_text := PySem.W.fnOf "_law_text" "_law_text" (defArgs s__law_text) (defBody s__law_text) (defScope s__law_text) .none kV__law_text dc__law_text pm__law_text an__law_text cd__law_text ct__law_text, f__law_spans := f__law_spans, d__law_spans := PySem.W.fnOf "_law_spans" "_law_spans" (defArgs s__law_spans) (defBody s__law_spans) (defScope s__law_spans) .none kV__law_spans dc__law_spans pm__law_spans an__law_spans cd__law_spans ct__law_spans, f_ItemRow___init__ := f_ItemRow___init__, d_ItemRow___init__ := PySem.W.fnOf "__init__" "ItemRow.__init__" (defArgs s_ItemRow___init__) (defBody s_ItemRow___init__) (defScope s_ItemRow___init__) .none kV_ItemRow___init__ dc_ItemRow___init__ pm_ItemRow___init__ an_ItemRow___init__ cd_ItemRow___init__ ct_ItemRow___init__, f_TextWalk_new_row := f_TextWalk_new_row, d_TextWalk_new_row := PySem.W.fnOf "new_row" "TextWalk.new_row" (defArgs s_TextWalk_new_row) (defBody s_TextWalk_new_row) (defScope s_TextWalk_new_row) .none kV_TextWalk_new_row dc_TextWalk_new_row pm_TextWalk_new_row an_TextWalk_new_row cd_TextWalk_new_row ct_TextWalk_new_row, f_TextWalk_next_in := f_TextWalk_next_in, d_TextWalk_next_in := PySem.W.fnOf "next_in" "TextWalk.next_in" (defArgs s_TextWalk_next_in) (defBody s_TextWalk_next_in) (defScope s_TextWalk_next_in) .none kV_TextWalk_next_in dc_TextWalk_next_in pm_TextWalk_next_in an_TextWalk_next_in cd_TextWalk_next_in ct_TextWalk_next_in, f_TextWalk_go_over_number := f_TextWalk_go_over_number, d_TextWalk_go_over_number := PySem.W.fnOf "go_over_number" "TextWalk.go_over_number" (defArgs s_TextWalk_go_over_number) (defBody s_TextWalk_go_over_number) (defScope s_TextWalk_go_over_number) .none kV_TextWalk_go_over_number dc_TextWalk_go_over_number pm_TextWalk_go_over_number an_TextWalk_go_over_number cd_TextWalk_go_over_number ct_TextWalk_go_over_number, f_TextWalk_go_over_name := f_TextWalk_go_over_name, d_TextWalk_go_over_name := PySem.W.fnOf "go_over_name" "TextWalk.go_over_name" (defArgs s_TextWalk_go_over_name) (defBody s_TextWalk_go_over_name) (defScope s_TextWalk_go_over_name) .none kV_TextWalk_go_over_name dc_TextWalk_go_over_name pm_TextWalk_go_over_name an_TextWalk_go_over_name cd_TextWalk_go_over_name ct_TextWalk_go_over_name, f_TextWalk_small_item := f_TextWalk_small_item, d_TextWalk_small_item := PySem.W.fnOf "small_item" "TextWalk.small_item" (defArgs s_TextWalk_small_item) (defBody s_TextWalk_small_item) (defScope s_TextWalk_small_item) .none kV_TextWalk_small_item dc_TextWalk_small_item pm_TextWalk_small_item an_TextWalk_small_item cd_TextWalk_small_item ct_TextWalk_small_item, f_OpenItem___init__ := f_OpenItem___init__, d_OpenItem___init__ := PySem.W.fnOf "__init__" "OpenItem.__init__" (defArgs s_OpenItem___init__) (defBody s_OpenItem___init__) (defScope s_OpenItem___init__) .none kV_OpenItem___init__ dc_OpenItem___init__ pm_OpenItem___init__ an_OpenItem___init__ cd_OpenItem___init__ ct_OpenItem___init__, f_TextWalk___init__ := f_TextWalk___init__, d_TextWalk___init__ := PySem.W.fnOf "__init__" "TextWalk.__init__" (defArgs s_TextWalk___init__) (defBody s_TextWalk___init__) (defScope s_TextWalk___init__) .none kV_TextWalk___init__ dc_TextWalk___init__ pm_TextWalk___init__ an_TextWalk___init__ cd_TextWalk___init__ ct_TextWalk___init__, f_BadText___init__ := f_BadText___init__, d_BadText___init__ := PySem.W.ksFn "__init__" "BadText.__init__" (defArgs s_BadText___init__) (defBody s_BadText___init__) (defScope s_BadText___init__) .none kV_BadText___init__ dc_BadText___init__ pm_BadText___init__ an_BadText___init__ (.ref cda_BadText___init__) ct_BadText___init__ cc_BadText___init__, f_TextWalk_refuse_here := f_TextWalk_refuse_here, d_TextWalk_refuse_here := PySem.W.fnOf "refuse_here" "TextWalk.refuse_here" (defArgs s_TextWalk_refuse_here) (defBody s_TextWalk_refuse_here) (defScope s_TextWalk_refuse_here) .none kV_TextWalk_refuse_here dc_TextWalk_refuse_here pm_TextWalk_refuse_here an_TextWalk_refuse_here cd_TextWalk_refuse_here ct_TextWalk_refuse_here, f_TextWalk_begin_first := f_TextWalk_begin_first, d_TextWalk_begin_first := PySem.W.fnOf "begin_first" "TextWalk.begin_first" (defArgs s_TextWalk_begin_first) (defBody s_TextWalk_begin_first) (defScope s_TextWalk_begin_first) .none kV_TextWalk_begin_first dc_TextWalk_begin_first pm_TextWalk_begin_first an_TextWalk_begin_first cd_TextWalk_begin_first ct_TextWalk_begin_first, f_TextWalk_begin_item := f_TextWalk_begin_item, d_TextWalk_begin_item := PySem.W.fnOf "begin_item" "TextWalk.begin_item" (defArgs s_TextWalk_begin_item) (defBody s_TextWalk_begin_item) (defScope s_TextWalk_begin_item) .none kV_TextWalk_begin_item dc_TextWalk_begin_item pm_TextWalk_begin_item an_TextWalk_begin_item cd_TextWalk_begin_item ct_TextWalk_begin_item, f_TextWalk_close_item := f_TextWalk_close_item, d_TextWalk_close_item := PySem.W.fnOf "close_item" "TextWalk.close_item" (defArgs s_TextWalk_close_item) (defBody s_TextWalk_close_item) (defScope s_TextWalk_close_item) .none kV_TextWalk_close_item dc_TextWalk_close_item pm_TextWalk_close_item an_TextWalk_close_item cd_TextWalk_close_item ct_TextWalk_close_item, f_TextWalk_go_on := f_TextWalk_go_on, d_TextWalk_go_on := PySem.W.fnOf "go_on" "TextWalk.go_on" (defArgs s_TextWalk_go_on) (defBody s_TextWalk_go_on) (defScope s_TextWalk_go_on) .none kV_TextWalk_go_on dc_TextWalk_go_on pm_TextWalk_go_on an_TextWalk_go_on cd_TextWalk_go_on ct_TextWalk_go_on, f_TextWalk_walked_rows := f_TextWalk_walked_rows, d_TextWalk_walked_rows := PySem.W.fnOf "walked_rows" "TextWalk.walked_rows" (defArgs s_TextWalk_walked_rows) (defBody s_TextWalk_walked_rows) (defScope s_TextWalk_walked_rows) .none kV_TextWalk_walked_rows dc_TextWalk_walked_rows pm_TextWalk_walked_rows an_TextWalk_walked_rows cd_TextWalk_walked_rows ct_TextWalk_walked_rows, f_rows_of_text := f_rows_of_text, d_rows_of_text := PySem.W.fnOf "rows_of_text" "rows_of_text" (defArgs s_rows_of_text) (defBody s_rows_of_text) (defScope s_rows_of_text) .none kV_rows_of_text dc_rows_of_text pm_rows_of_text an_rows_of_text cd_rows_of_text ct_rows_of_text, f_spans_of := f_spans_of, d_spans_of := PySem.W.fnOf "spans_of" "spans_of" (defArgs s_spans_of) (defBody s_spans_of) (defScope s_spans_of) .none kV_spans_of dc_spans_of pm_spans_of an_spans_of cd_spans_of ct_spans_of, f_is_whole := f_is_whole, d_is_whole := PySem.W.fnOf "is_whole" "is_whole" (defArgs s_is_whole) (defBody s_is_whole) (defScope s_is_whole) .none kV_is_whole dc_is_whole pm_is_whole an_is_whole cd_is_whole ct_is_whole, f_is_number := f_is_number, d_is_number := PySem.W.fnOf "is_number" "is_number" (defArgs s_is_number) (defBody s_is_number) (defScope s_is_number) .none kV_is_number dc_is_number pm_is_number an_is_number cd_is_number ct_is_number, f_NoIndex___init__ := f_NoIndex___init__, d_NoIndex___init__ := PySem.W.ksFn "__init__" "NoIndex.__init__" (defArgs s_NoIndex___init__) (defBody s_NoIndex___init__) (defScope s_NoIndex___init__) .none kV_NoIndex___init__ dc_NoIndex___init__ pm_NoIndex___init__ an_NoIndex___init__ (.ref cda_NoIndex___init__) ct_NoIndex___init__ cc_NoIndex___init__, f_item_at := f_item_at, d_item_at := PySem.W.fnOf "item_at" "item_at" (defArgs s_item_at) (defBody s_item_at) (defScope s_item_at) .none kV_item_at dc_item_at pm_item_at an_item_at cd_item_at ct_item_at, f__law_told := f__law_told, d__law_told := PySem.W.fnOf "_law_told" "_law_told" (defArgs s__law_told) (defBody s__law_told) (defScope s__law_told) .none kV__law_told dc__law_told pm__law_told an__law_told cd__law_told ct__law_told, f_law := f_law, d_law := PySem.W.fnOf "law" "law" (defArgs s_law) (defBody s_law) (defScope s_law) .none kV_law dc_law pm_law an_law cd_law ct_law, g_SIGNED_KINDS := g_SIGNED_KINDS }, e1, ?_, fun s v => .of_eq rfl⟩
  exact {
    F__law_pool := fun_mk (st := s__law_pool) l__law_pool c__law_pool k__law_pool
    B__law_pool := (fun_mk (st := s__law_pool) l__law_pool c__law_pool k__law_pool).binds (ps := ["script", "k"]) fun _ _ _ _ _ _ us hl => match us, hl with | [_, _], _ => rfl
    m__law_pool := PySem.W.mg_of X G a__law_pool
    F__law_take := fun_mk (st := s__law_take) l__law_take c__law_take k__law_take
    B__law_take := (fun_mk (st := s__law_take) l__law_take c__law_take k__law_take).binds (ps := ["pool", "bound"]) fun _ _ _ _ _ _ us hl => match us, hl with | [_, _], _ => rfl
    m__law_take := PySem.W.mg_of X G a__law_take
    F__law_one := fun_mk (st := s__law_one) l__law_one c__law_one k__law_one
    B__law_one := (fun_mk (st := s__law_one) l__law_one c__law_one k__law_one).binds (ps := ["pool", "things"]) fun _ _ _ _ _ _ us hl => match us, hl with | [_, _], _ => rfl
    m__law_one := PySem.W.mg_of X G a__law_one
    F__law_item := fun_mk (st := s__law_item) l__law_item c__law_item k__law_item
    B__law_item := (fun_mk (st := s__law_item) l__law_item c__law_item k__law_item).binds (ps := ["pool", "deep", "names"]) fun _ _ _ _ _ _ us hl => match us, hl with | [_, _, _], _ => rfl
    m__law_item := PySem.W.mg_of X G a__law_item
    F__law_program := fun_mk (st := s__law_program) l__law_program c__law_program k__law_program
    B__law_program := (fun_mk (st := s__law_program) l__law_program c__law_program k__law_program).binds (ps := ["pool", "names"]) fun _ _ _ _ _ _ us hl => match us, hl with | [_, _], _ => rfl
    m__law_program := PySem.W.mg_of X G a__law_program
    F__law_word := fun_mk (st := s__law_word) l__law_word c__law_word k__law_word
    B__law_word := (fun_mk (st := s__law_word) l__law_word c__law_word k__law_word).binds (ps := ["item"]) fun _ _ _ _ _ _ us hl => match us, hl with | [_], _ => rfl
    m__law_word := PySem.W.mg_of X G a__law_word
    F__law_text := fun_mk (st := s__law_text) l__law_text c__law_text k__law_text
    B__law_text := (fun_mk (st := s__law_text) l__law_text c__law_text k__law_text).binds (ps := ["program"]) fun _ _ _ _ _ _ us hl => match us, hl with | [_], _ => rfl
    m__law_text := PySem.W.mg_of X G a__law_text
    F__law_spans := fun_mk (st := s__law_spans) l__law_spans c__law_spans k__law_spans
    B__law_spans := (fun_mk (st := s__law_spans) l__law_spans c__law_spans k__law_spans).binds (ps := ["items", "path", "first"]) fun _ _ _ _ _ _ us hl => match us, hl with | [_, _, _], _ => rfl
    m__law_spans := PySem.W.mg_of X G a__law_spans
    F_ItemRow___init__ := fun_mk (st := s_ItemRow___init__) l_ItemRow___init__ c_ItemRow___init__ k_ItemRow___init__
    B_ItemRow___init__ := (fun_mk (st := s_ItemRow___init__) l_ItemRow___init__ c_ItemRow___init__ k_ItemRow___init__).binds (ps := ["self", "path", "first", "kind", "value"]) fun _ _ _ _ _ _ us hl => match us, hl with | [_, _, _, _, _], _ => rfl
    F_TextWalk_new_row := fun_mk (st := s_TextWalk_new_row) l_TextWalk_new_row c_TextWalk_new_row k_TextWalk_new_row
    B_TextWalk_new_row := (fun_mk (st := s_TextWalk_new_row) l_TextWalk_new_row c_TextWalk_new_row k_TextWalk_new_row).binds (ps := ["self", "first", "kind", "value"]) fun _ _ _ _ _ _ us hl => match us, hl with | [_, _, _, _], _ => rfl
    F_TextWalk_next_in := fun_mk (st := s_TextWalk_next_in) l_TextWalk_next_in c_TextWalk_next_in k_TextWalk_next_in
    B_TextWalk_next_in := (fun_mk (st := s_TextWalk_next_in) l_TextWalk_next_in c_TextWalk_next_in k_TextWalk_next_in).binds (ps := ["self", "signs"]) fun _ _ _ _ _ _ us hl => match us, hl with | [_, _], _ => rfl
    F_TextWalk_go_over_number := fun_mk (st := s_TextWalk_go_over_number) l_TextWalk_go_over_number c_TextWalk_go_over_number k_TextWalk_go_over_number
    B_TextWalk_go_over_number := (fun_mk (st := s_TextWalk_go_over_number) l_TextWalk_go_over_number c_TextWalk_go_over_number k_TextWalk_go_over_number).binds (ps := ["self"]) fun _ _ _ _ _ _ us hl => match us, hl with | [_], _ => rfl
    F_TextWalk_go_over_name := fun_mk (st := s_TextWalk_go_over_name) l_TextWalk_go_over_name c_TextWalk_go_over_name k_TextWalk_go_over_name
    B_TextWalk_go_over_name := (fun_mk (st := s_TextWalk_go_over_name) l_TextWalk_go_over_name c_TextWalk_go_over_name k_TextWalk_go_over_name).binds (ps := ["self"]) fun _ _ _ _ _ _ us hl => match us, hl with | [_], _ => rfl
    F_TextWalk_small_item := fun_mk (st := s_TextWalk_small_item) l_TextWalk_small_item c_TextWalk_small_item k_TextWalk_small_item
    B_TextWalk_small_item := (fun_mk (st := s_TextWalk_small_item) l_TextWalk_small_item c_TextWalk_small_item k_TextWalk_small_item).binds (ps := ["self"]) fun _ _ _ _ _ _ us hl => match us, hl with | [_], _ => rfl
    F_OpenItem___init__ := fun_mk (st := s_OpenItem___init__) l_OpenItem___init__ c_OpenItem___init__ k_OpenItem___init__
    B_OpenItem___init__ := (fun_mk (st := s_OpenItem___init__) l_OpenItem___init__ c_OpenItem___init__ k_OpenItem___init__).binds (ps := ["self", "path", "row"]) fun _ _ _ _ _ _ us hl => match us, hl with | [_, _, _], _ => rfl
    F_TextWalk___init__ := fun_mk (st := s_TextWalk___init__) l_TextWalk___init__ c_TextWalk___init__ k_TextWalk___init__
    B_TextWalk___init__ := (fun_mk (st := s_TextWalk___init__) l_TextWalk___init__ c_TextWalk___init__ k_TextWalk___init__).binds (ps := ["self", "text"]) fun _ _ _ _ _ _ us hl => match us, hl with | [_, _], _ => rfl
    F_TextWalk_refuse_here := fun_mk (st := s_TextWalk_refuse_here) l_TextWalk_refuse_here c_TextWalk_refuse_here k_TextWalk_refuse_here
    B_TextWalk_refuse_here := (fun_mk (st := s_TextWalk_refuse_here) l_TextWalk_refuse_here c_TextWalk_refuse_here k_TextWalk_refuse_here).binds (ps := ["self"]) fun _ _ _ _ _ _ us hl => match us, hl with | [_], _ => rfl
    F_TextWalk_begin_first := fun_mk (st := s_TextWalk_begin_first) l_TextWalk_begin_first c_TextWalk_begin_first k_TextWalk_begin_first
    B_TextWalk_begin_first := (fun_mk (st := s_TextWalk_begin_first) l_TextWalk_begin_first c_TextWalk_begin_first k_TextWalk_begin_first).binds (ps := ["self"]) fun _ _ _ _ _ _ us hl => match us, hl with | [_], _ => rfl
    F_TextWalk_begin_item := fun_mk (st := s_TextWalk_begin_item) l_TextWalk_begin_item c_TextWalk_begin_item k_TextWalk_begin_item
    B_TextWalk_begin_item := (fun_mk (st := s_TextWalk_begin_item) l_TextWalk_begin_item c_TextWalk_begin_item k_TextWalk_begin_item).binds (ps := ["self"]) fun _ _ _ _ _ _ us hl => match us, hl with | [_], _ => rfl
    F_TextWalk_close_item := fun_mk (st := s_TextWalk_close_item) l_TextWalk_close_item c_TextWalk_close_item k_TextWalk_close_item
    B_TextWalk_close_item := (fun_mk (st := s_TextWalk_close_item) l_TextWalk_close_item c_TextWalk_close_item k_TextWalk_close_item).binds (ps := ["self"]) fun _ _ _ _ _ _ us hl => match us, hl with | [_], _ => rfl
    F_TextWalk_go_on := fun_mk (st := s_TextWalk_go_on) l_TextWalk_go_on c_TextWalk_go_on k_TextWalk_go_on
    B_TextWalk_go_on := (fun_mk (st := s_TextWalk_go_on) l_TextWalk_go_on c_TextWalk_go_on k_TextWalk_go_on).binds (ps := ["self"]) fun _ _ _ _ _ _ us hl => match us, hl with | [_], _ => rfl
    F_TextWalk_walked_rows := fun_mk (st := s_TextWalk_walked_rows) l_TextWalk_walked_rows c_TextWalk_walked_rows k_TextWalk_walked_rows
    B_TextWalk_walked_rows := (fun_mk (st := s_TextWalk_walked_rows) l_TextWalk_walked_rows c_TextWalk_walked_rows k_TextWalk_walked_rows).binds (ps := ["self"]) fun _ _ _ _ _ _ us hl => match us, hl with | [_], _ => rfl
    F_rows_of_text := fun_mk (st := s_rows_of_text) l_rows_of_text c_rows_of_text k_rows_of_text
    B_rows_of_text := (fun_mk (st := s_rows_of_text) l_rows_of_text c_rows_of_text k_rows_of_text).binds (ps := ["text"]) fun _ _ _ _ _ _ us hl => match us, hl with | [_], _ => rfl
    m_rows_of_text := PySem.W.mg_of X G a_rows_of_text
    F_spans_of := fun_mk (st := s_spans_of) l_spans_of c_spans_of k_spans_of
    B_spans_of := (fun_mk (st := s_spans_of) l_spans_of c_spans_of k_spans_of).binds (ps := ["text"]) fun _ _ _ _ _ _ us hl => match us, hl with | [_], _ => rfl
    m_spans_of := PySem.W.mg_of X G a_spans_of
    F_is_whole := fun_mk (st := s_is_whole) l_is_whole c_is_whole k_is_whole
    B_is_whole := (fun_mk (st := s_is_whole) l_is_whole c_is_whole k_is_whole).binds (ps := ["value"]) fun _ _ _ _ _ _ us hl => match us, hl with | [_], _ => rfl
    m_is_whole := PySem.W.mg_of X G a_is_whole
    F_is_number := fun_mk (st := s_is_number) l_is_number c_is_number k_is_number
    B_is_number := (fun_mk (st := s_is_number) l_is_number c_is_number k_is_number).binds (ps := ["value", "low", "high"]) fun _ _ _ _ _ _ us hl => match us, hl with | [_, _, _], _ => rfl
    m_is_number := PySem.W.mg_of X G a_is_number
    F_item_at := fun_mk (st := s_item_at) l_item_at c_item_at k_item_at
    B_item_at := (fun_mk (st := s_item_at) l_item_at c_item_at k_item_at).binds (ps := ["text", "index"]) fun _ _ _ _ _ _ us hl => match us, hl with | [_, _], _ => rfl
    m_item_at := PySem.W.mg_of X G a_item_at
    F__law_told := fun_mk (st := s__law_told) l__law_told c__law_told k__law_told
    B__law_told := (fun_mk (st := s__law_told) l__law_told c__law_told k__law_told).binds (ps := ["text", "index"]) fun _ _ _ _ _ _ us hl => match us, hl with | [_, _], _ => rfl
    m__law_told := PySem.W.mg_of X G a__law_told
    F_law := fun_mk (st := s_law) l_law c_law k_law
    B_law := (fun_mk (st := s_law) l_law c_law k_law).binds (ps := ["script"]) fun _ _ _ _ _ _ us hl => match us, hl with | [_], _ => rfl
    m_law := PySem.W.mg_of X G a_law
    c_OpenItem := PySem.W.mg_of X G aC_OpenItem
    c_ItemRow := PySem.W.mg_of X G aC_ItemRow
    c_TextWalk := PySem.W.mg_of X G aC_TextWalk
    c_NoIndex := PySem.W.mg_of X G aC_NoIndex
    c_BadText := PySem.W.mg_of X G aC_BadText
    K_OpenItem := ⟨mk_OpenItem, a_OpenItem___init__, i_OpenItem___init__, kc_OpenItem⟩
    K_ItemRow := ⟨mk_ItemRow, a_ItemRow___init__, i_ItemRow___init__, kc_ItemRow⟩
    K_TextWalk := ⟨mk_TextWalk, a_TextWalk___init__, i_TextWalk___init__, kc_TextWalk⟩
    f_own_at := fun C hC => by
      simp only [G_own_at, Bool.or_eq_true, beq_iff_eq] at hC
      rcases hC with rfl
      · exact ⟨⟨pg_TextWalk, hd_TextWalk, po_TextWalk, sa_TextWalk⟩, n_TextWalk_own_at⟩
    f_own_behind := fun C hC => by
      simp only [G_own_behind, Bool.or_eq_true, beq_iff_eq] at hC
      rcases hC with rfl
      · exact ⟨⟨pg_ItemRow, hd_ItemRow, po_ItemRow, sa_ItemRow⟩, n_ItemRow_own_behind⟩
    f_own_first := fun C hC => by
      simp only [G_own_first, Bool.or_eq_true, beq_iff_eq] at hC
      rcases hC with rfl
      · exact ⟨⟨pg_ItemRow, hd_ItemRow, po_ItemRow, sa_ItemRow⟩, n_ItemRow_own_first⟩
    f_own_kind := fun C hC => by
      simp only [G_own_kind, Bool.or_eq_true, beq_iff_eq] at hC
      rcases hC with rfl
      · exact ⟨⟨pg_ItemRow, hd_ItemRow, po_ItemRow, sa_ItemRow⟩, n_ItemRow_own_kind⟩
    f_own_many := fun C hC => by
      simp only [G_own_many, Bool.or_eq_true, beq_iff_eq] at hC
      rcases hC with rfl
      · exact ⟨⟨pg_OpenItem, hd_OpenItem, po_OpenItem, sa_OpenItem⟩, n_OpenItem_own_many⟩
    f_own_path := fun C hC => by
      simp only [G_own_path, Bool.or_eq_true, beq_iff_eq] at hC
      rcases hC with (rfl | rfl)
      · exact ⟨⟨pg_OpenItem, hd_OpenItem, po_OpenItem, sa_OpenItem⟩, n_OpenItem_own_path⟩
      · exact ⟨⟨pg_ItemRow, hd_ItemRow, po_ItemRow, sa_ItemRow⟩, n_ItemRow_own_path⟩
    f_own_pile := fun C hC => by
      simp only [G_own_pile, Bool.or_eq_true, beq_iff_eq] at hC
      rcases hC with rfl
      · exact ⟨⟨pg_TextWalk, hd_TextWalk, po_TextWalk, sa_TextWalk⟩, n_TextWalk_own_pile⟩
    f_own_row := fun C hC => by
      simp only [G_own_row, Bool.or_eq_true, beq_iff_eq] at hC
      rcases hC with rfl
      · exact ⟨⟨pg_OpenItem, hd_OpenItem, po_OpenItem, sa_OpenItem⟩, n_OpenItem_own_row⟩
    f_own_rows := fun C hC => by
      simp only [G_own_rows, Bool.or_eq_true, beq_iff_eq] at hC
      rcases hC with rfl
      · exact ⟨⟨pg_TextWalk, hd_TextWalk, po_TextWalk, sa_TextWalk⟩, n_TextWalk_own_rows⟩
    f_own_text := fun C hC => by
      simp only [G_own_text, Bool.or_eq_true, beq_iff_eq] at hC
      rcases hC with rfl
      · exact ⟨⟨pg_TextWalk, hd_TextWalk, po_TextWalk, sa_TextWalk⟩, n_TextWalk_own_text⟩
    f_own_value := fun C hC => by
      simp only [G_own_value, Bool.or_eq_true, beq_iff_eq] at hC
      rcases hC with rfl
      · exact ⟨⟨pg_ItemRow, hd_ItemRow, po_ItemRow, sa_ItemRow⟩, n_ItemRow_own_value⟩
    h_begin_first := ⟨fun C hC => by
      simp only [H_begin_first, beq_iff_eq] at hC
      subst hC
      exact ⟨⟨pg_TextWalk, hd_TextWalk, po_TextWalk, sa_TextWalk⟩, ⟨a_TextWalk_begin_first, i_TextWalk_begin_first, k_TextWalk_begin_first⟩⟩, k_TextWalk_begin_first⟩
    h_begin_item := ⟨fun C hC => by
      simp only [H_begin_item, beq_iff_eq] at hC
      subst hC
      exact ⟨⟨pg_TextWalk, hd_TextWalk, po_TextWalk, sa_TextWalk⟩, ⟨a_TextWalk_begin_item, i_TextWalk_begin_item, k_TextWalk_begin_item⟩⟩, k_TextWalk_begin_item⟩
    h_close_item := ⟨fun C hC => by
      simp only [H_close_item, beq_iff_eq] at hC
      subst hC
      exact ⟨⟨pg_TextWalk, hd_TextWalk, po_TextWalk, sa_TextWalk⟩, ⟨a_TextWalk_close_item, i_TextWalk_close_item, k_TextWalk_close_item⟩⟩, k_TextWalk_close_item⟩
    h_go_on := ⟨fun C hC => by
      simp only [H_go_on, beq_iff_eq] at hC
      subst hC
      exact ⟨⟨pg_TextWalk, hd_TextWalk, po_TextWalk, sa_TextWalk⟩, ⟨a_TextWalk_go_on, i_TextWalk_go_on, k_TextWalk_go_on⟩⟩, k_TextWalk_go_on⟩
    h_go_over_name := ⟨fun C hC => by
      simp only [H_go_over_name, beq_iff_eq] at hC
      subst hC
      exact ⟨⟨pg_TextWalk, hd_TextWalk, po_TextWalk, sa_TextWalk⟩, ⟨a_TextWalk_go_over_name, i_TextWalk_go_over_name, k_TextWalk_go_over_name⟩⟩, k_TextWalk_go_over_name⟩
    h_go_over_number := ⟨fun C hC => by
      simp only [H_go_over_number, beq_iff_eq] at hC
      subst hC
      exact ⟨⟨pg_TextWalk, hd_TextWalk, po_TextWalk, sa_TextWalk⟩, ⟨a_TextWalk_go_over_number, i_TextWalk_go_over_number, k_TextWalk_go_over_number⟩⟩, k_TextWalk_go_over_number⟩
    h_new_row := ⟨fun C hC => by
      simp only [H_new_row, beq_iff_eq] at hC
      subst hC
      exact ⟨⟨pg_TextWalk, hd_TextWalk, po_TextWalk, sa_TextWalk⟩, ⟨a_TextWalk_new_row, i_TextWalk_new_row, k_TextWalk_new_row⟩⟩, k_TextWalk_new_row⟩
    h_next_in := ⟨fun C hC => by
      simp only [H_next_in, beq_iff_eq] at hC
      subst hC
      exact ⟨⟨pg_TextWalk, hd_TextWalk, po_TextWalk, sa_TextWalk⟩, ⟨a_TextWalk_next_in, i_TextWalk_next_in, k_TextWalk_next_in⟩⟩, k_TextWalk_next_in⟩
    h_refuse_here := ⟨fun C hC => by
      simp only [H_refuse_here, beq_iff_eq] at hC
      subst hC
      exact ⟨⟨pg_TextWalk, hd_TextWalk, po_TextWalk, sa_TextWalk⟩, ⟨a_TextWalk_refuse_here, i_TextWalk_refuse_here, k_TextWalk_refuse_here⟩⟩, k_TextWalk_refuse_here⟩
    h_small_item := ⟨fun C hC => by
      simp only [H_small_item, beq_iff_eq] at hC
      subst hC
      exact ⟨⟨pg_TextWalk, hd_TextWalk, po_TextWalk, sa_TextWalk⟩, ⟨a_TextWalk_small_item, i_TextWalk_small_item, k_TextWalk_small_item⟩⟩, k_TextWalk_small_item⟩
    h_walked_rows := ⟨fun C hC => by
      simp only [H_walked_rows, beq_iff_eq] at hC
      subst hC
      exact ⟨⟨pg_TextWalk, hd_TextWalk, po_TextWalk, sa_TextWalk⟩, ⟨a_TextWalk_walked_rows, i_TextWalk_walked_rows, k_TextWalk_walked_rows⟩⟩, k_TextWalk_walked_rows⟩
    g_LEADING_FIGURES := ⟨_, PySem.W.mg_of X G ag_LEADING_FIGURES⟩
    g_MOST_LETTERS := ⟨_, PySem.W.mg_of X G ag_MOST_LETTERS⟩
    g_SIGNED_KINDS := PySem.W.mg_of X G ag_SIGNED_KINDS
    d_SIGNED_KINDS := fun z v e => by
      simp only [t_SIGNED_KINDS, List.lookup] at e
      split at e
      · rename_i hz
        cases e
        obtain rfl := (beq_iff_eq.mp hz)
        exact ⟨es_SIGNED_KINDS, en_SIGNED_KINDS, _, lg_SIGNED_KINDS, hk_SIGNED_KINDS, v_SIGNED_KINDS_0, ⟨_, rfl⟩⟩
      split at e
      · rename_i hz
        cases e
        obtain rfl := (beq_iff_eq.mp hz)
        exact ⟨es_SIGNED_KINDS, en_SIGNED_KINDS, _, lg_SIGNED_KINDS, hk_SIGNED_KINDS, v_SIGNED_KINDS_1, ⟨_, rfl⟩⟩
      cases e
    g_TEXT_FIGURES := ⟨_, PySem.W.mg_of X G ag_TEXT_FIGURES⟩
    g_TEXT_LETTERS := ⟨_, PySem.W.mg_of X G ag_TEXT_LETTERS⟩
    b_bool := PySem.W.mg_none_of X G ab_bool
    b_int := PySem.W.mg_none_of X G ab_int
    b_isinstance := PySem.W.mg_none_of X G ab_isinstance
    b_len := PySem.W.mg_none_of X G ab_len
    b_max := PySem.W.mg_none_of X G ab_max
    b_min := PySem.W.mg_none_of X G ab_min
    b_range := PySem.W.mg_none_of X G ab_range
    b_str := PySem.W.mg_none_of X G ab_str
    b_tuple := PySem.W.mg_none_of X G ab_tuple
    S_NoIndex := ⟨⟨⟨_, _, _, _, _, _, _, _, _, _, _, _, _, _, _, xl_NoIndex, xr_NoIndex⟩, xs_NoIndex, xb_NoIndex, xt_NoIndex, xk_NoIndex⟩, xv_NoIndex, xu_NoIndex, xm_NoIndex, xn_NoIndex⟩
    I_NoIndex := a_NoIndex___init__
    Y_NoIndex := xy_NoIndex
    B_NoIndex___init__ := (show Binds K (PySem.W.ksFn "__init__" "NoIndex.__init__" (defArgs s_NoIndex___init__) (defBody s_NoIndex___init__) (defScope s_NoIndex___init__) .none kV_NoIndex___init__ dc_NoIndex___init__ pm_NoIndex___init__ an_NoIndex___init__ (.ref cda_NoIndex___init__) ct_NoIndex___init__ cc_NoIndex___init__) ["self", "told"] [] from Binds.all fun us hl => match us, hl with | [_, _], _ => rfl)
    E_NoIndex := fun base => sup_fn (k := 0) l_NoIndex___init__ c_NoIndex___init__ (NdefX.nscope_by (by decide +kernel)) rfl rfl xc_NoIndex xf_NoIndex xi_NoIndex xe_NoIndex xD_NoIndex (PySem.W.mg_none_of X G asup) rfl htop aany (by decide) (by decide) (by decide) (by decide) (by decide +kernel) (fun _ => rfl) _ (fun _ => rfl)
    X_NoIndex := ⟨xa_NoIndex, xg_NoIndex, xb_NoIndex, xh_NoIndex⟩
    M_NoIndex := fun c b e => by
      unfold mt_NoIndex at e
      split at e
      · rename_i hz
        cases e
        subst hz
        exact exm_of xb_NoIndex xD_NoIndex xt_NoIndex xz_NoIndex_NoIndex
      split at e
      · rename_i hz
        cases e
        subst hz
        exact exm_of xb_NoIndex xD_NoIndex xt_NoIndex xz_BadText_NoIndex
      cases e
    S_BadText := ⟨⟨⟨_, _, _, _, _, _, _, _, _, _, _, _, _, _, _, xl_BadText, xr_BadText⟩, xs_BadText, xb_BadText, xt_BadText, xk_BadText⟩, xv_BadText, xu_BadText, xm_BadText, xn_BadText⟩
    I_BadText := a_BadText___init__
    Y_BadText := xy_BadText
    B_BadText___init__ := (show Binds K (PySem.W.ksFn "__init__" "BadText.__init__" (defArgs s_BadText___init__) (defBody s_BadText___init__) (defScope s_BadText___init__) .none kV_BadText___init__ dc_BadText___init__ pm_BadText___init__ an_BadText___init__ (.ref cda_BadText___init__) ct_BadText___init__ cc_BadText___init__) ["self", "told"] [] from Binds.all fun us hl => match us, hl with | [_, _], _ => rfl)
    E_BadText := fun base => sup_fn (k := 0) l_BadText___init__ c_BadText___init__ (NdefX.nscope_by (by decide +kernel)) rfl rfl xc_BadText xf_BadText xi_BadText xe_BadText xD_BadText (PySem.W.mg_none_of X G asup) rfl htop aany (by decide) (by decide) (by decide) (by decide) (by decide +kernel) (fun _ => rfl) _ (fun _ => rfl)
    X_BadText := ⟨xa_BadText, xg_BadText, xb_BadText, xh_BadText⟩
    M_BadText := fun c b e => by
      unfold mt_BadText at e
      split at e
      · rename_i hz
        cases e
        subst hz
        exact exm_of xb_BadText xD_BadText xt_BadText xz_BadText_BadText
      split at e
      · rename_i hz
        cases e
        subst hz
        exact exm_of xb_BadText xD_BadText xt_BadText xz_NoIndex_BadText
      cases e
    ne_ItemRow_OpenItem := ne_ItemRow_OpenItem
    ne_TextWalk_OpenItem := ne_TextWalk_OpenItem
    ne_TextWalk_ItemRow := ne_TextWalk_ItemRow
    ne_NoIndex_OpenItem := ne_NoIndex_OpenItem
    ne_NoIndex_ItemRow := ne_NoIndex_ItemRow
    ne_NoIndex_TextWalk := ne_NoIndex_TextWalk
    ne_BadText_OpenItem := ne_BadText_OpenItem
    ne_BadText_ItemRow := ne_BadText_ItemRow
    ne_BadText_TextWalk := ne_BadText_TextWalk
    ne_BadText_NoIndex := ne_BadText_NoIndex }
theorem walk {l : PySem.W.OpenLaw} {q : Program} {loose : List Str} {XP : (Str → Option Value) → Heap → Prop} {YP : World → Heap → Prop} {d : DefRec} {K : Params → PySem.W.Frag} (hn : l.most = some 63) (hdf : d.params.defaults = [])
    (hY : ∀ (w : World) (h : Heap), YP w h → (K w.params).In h)
    (F : ∀ (w : World) (mg : Str → Option Value) (fa : Addr) (h : Heap), (K w.params).In h → h.Ns mainGlobals mg → mg d.name = some (.ref fa) →
      ∃ A : Ads, A.f_law = fa ∧ TX l.prog w (K w.params) mg A ∧ ∀ (s : Shared) (v : Value), BindsTo s A.d_law ⟨[v], []⟩ [("script", v)])
    (law_true : ∀ {P : Program} {w : World} {K : PySem.W.Frag} {mg : Str → Option Value} {A : Ads}, TX P w K mg A → ∀ ns : List Int, ns.length ≤ 63 → ∃ S, m_law A [.fz (ns.map D.int)] [] = .ok (.bl true) S) :
    PySem.W.WalkO q loose XP YP l.row.toRowW d [] (fun f vs => PySem.call f vs) := by
  refine L2.walk_of (n := 63) (k := 34) (x := "script") (CX := fun w => L2.CX l.prog w) (sp := fun w => spStart (K w.params) 63) hn (by decide) hdf ⟨rfl, by decide, by decide⟩ hY (fun w mg fa h X G hfa => ?_) (fun w H a ns hl hO hS => ⟨a, ns, rfl, hS, hl, fun _ => rfl⟩) (fun w H s e s' z => cx_no z)
  obtain ⟨A, rfl, T, hb⟩ := F w mg fa h X G hfa
  exact ⟨A.d_law, hb, fun base _ _ => (ok_law (base := base) T).imp fun vs H Q E h => start_of h fun ns hl => law_true T ns hl⟩
end K68
end

section
set_option Elab.async false
set_option linter.all false
set_option maxRecDepth 100000
set_option maxHeartbeats 1000000
namespace K68
open PySem PySem.Spec PyProof.Rows L2 Fx
/-! ## the plain law, part 1: evaluation -/
theorem mVar_ev {i : Nat} {Γ : En} {S : Sto} {d : D} (h : Γ[i]? = some (some d)) : mVar i Γ S = .ok d S := by unfold mVar; rw [h]
@[simp] theorem mC_ev (d : D) (Γ : En) (S : Sto) : mC d Γ S = .ok d S := rfl
@[simp] theorem sPass_ev (Γ : En) (S : Sto) : sPass Γ S = .nx Γ S := rfl
@[simp] theorem aNil_ev (Γ : En) (S : Sto) : aNil Γ S = .ok [] S := rfl
abbrev pl (a b : Int) : O := .lst [.int a, .int b]
/-- the state with the pool at n -/
abbrev Sp (S : Sto) (n : Nat) (a b : Int) : Sto := S.set n (pl a b)
theorem ix0 (a b : Int) : atI [D.int a, D.int b] 0 = some (.int a) := rfl
theorem ix1 (a b : Int) : atI [D.int a, D.int b] 1 = some (.int b) := rfl
theorem sp_get {S : Sto} {n : Nat} (h : n < S.length) (a b : Int) : (Sp S n a b)[n]? = some (pl a b) := List.getElem?_set_self h
theorem dIx_ref {S : Sto} {n : Nat} {xs : List D} (i : Int) {d : D} (h : S[n]? = some (.lst xs)) (e : atI xs i = some d) : dIx (.ref n) (.int i) S = .ok d S := by
  unfold dIx
  have : dSq S (.ref n) = some xs := by simp [dSq, dL, h]
  simp [this, e]
theorem take_ev (A : Ads) {S : Sto} {n : Nat} (hn : n < S.length) (a b : Int) {k : Int} (h0 : 0 < k) (h1 : k < 1073741824) :
    ∃ v a' b', m__law_take A [.ref n, .int k] (Sp S n a b) = .ok (.int v) (Sp S n a' b') ∧ 0 ≤ v ∧ v < k := by
  have g := sp_get hn a b
  have e0 := dIx_ref 0 g (ix0 a b)
  have e1 := dIx_ref 1 g (ix1 a b)
  by_cases hp : 0 < a
  · refine ⟨a % k, a / k, b, ?_, Int.emod_nonneg _ (by omega), Int.emod_lt_of_pos _ h0⟩
    have c1 : CDiv a k := ⟨h0, h1⟩
    simp [m__law_take, runF, enter, sSeq, sIf, sAsg, sSub, sRet, mT, mOp, mVar, gN, mBlt, aCons, fInt, e0, dII, dIC, hp, h0, c1, ixN, g, Res.toS, Res.bind, List.set_set]
  · have q1 : CMul b 39373 := .inr (by decide)
    have g2 := sp_get hn a ((b * 39373 + 7) % 2147483647)
    have e2 := dIx_ref 1 g2 (ix1 _ _)
    have r0 : 0 ≤ (b * 39373 + 7) % 2147483647 := Int.emod_nonneg _ (by decide)
    have r1 : (b * 39373 + 7) % 2147483647 < 2147483647 := Int.emod_lt_of_pos _ (by decide)
    have q2 : CMul ((b * 39373 + 7) % 2147483647) ((b * 39373 + 7) % 2147483647) := .inl (by omega)
    have q3 : ∀ x : Int, CDiv x 32 := fun x => by unfold CDiv; omega
    generalize hb : (b * 39373 + 7) % 2147483647 = b' at *
    refine ⟨(b' * b') % 2147483629 / 32 % k, a, b', ?_, Int.emod_nonneg _ (by omega), Int.emod_lt_of_pos _ h0⟩
    simp [m__law_take, runF, enter, sSeq, sIf, sAsg, sSub, sRet, sPass, mT, mOp, mVar, gN, mBlt, aCons, fInt, e0, e1, dII, dIC, dAdd, hp, h0, q1, hb, ixN, g, Res.toS, Res.bind, List.set_set, e2, q2, q3]
end K68
end

section
set_option Elab.async false
set_option linter.all false
set_option maxRecDepth 100000
set_option maxHeartbeats 1000000
namespace K68
open PySem PySem.Spec PyProof.Rows L2 Fx
theorem ixN_nat {n : Nat} {v : Int} (h0 : 0 ≤ v) (h1 : v < n) : ixN n v = some v.toNat := by
  unfold ixN
  rw [if_pos h0, if_pos h1]
theorem atI_nat {α : Type} {xs : List α} {v : Int} (h0 : 0 ≤ v) (h1 : v < xs.length) : atI xs v = xs[v.toNat]? := by
  unfold atI
  rw [ixN_nat h0 h1]
  rfl
/-- one of the things -/
theorem one_ev (A : Ads) {S : Sto} {n : Nat} (hn : n < S.length) (a b : Int) {t : D} {xs : List D} (hx : ∀ a b, dSq (Sp S n a b) t = some xs) (ht : ∀ z, t ≠ .str z) (h0 : xs ≠ []) (h1 : xs.length ≤ 1000000) :
    ∃ d a' b', m__law_one A [.ref n, t] (Sp S n a b) = .ok d (Sp S n a' b') ∧ d ∈ xs := by
  have hl : 0 < xs.length := List.length_pos_iff.mpr h0
  obtain ⟨v, a', b', e, v0, v1⟩ := take_ev A hn a b (k := (xs.length : Int)) (by omega) (by omega)
  have hv : v.toNat < xs.length := by omega
  refine ⟨xs[v.toNat], a', b', ?_, List.getElem_mem hv⟩
  have e2 : fLen [t] (Sp S n a b) = .ok (.int xs.length) (Sp S n a b) := by
    unfold fLen
    cases t with
    | str z => exact absurd rfl (ht z)
    | _ => simp [hx]
  have e3 : dIx t (.int v) (Sp S n a' b') = .ok xs[v.toNat] (Sp S n a' b') := by
    unfold dIx
    have q : atI xs v = some xs[v.toNat] := by rw [atI_nat v0 v1, List.getElem?_eq_getElem hv]
    cases t with
    | str z => exact absurd rfl (ht z)
    | _ => simp [hx, q]
  simp [m__law_one, runF, enter, sRet, mOp, mVar, mCall, arg, mBlt, aCons, e2, e, e3, Res.bind, Res.toS]
theorem lcL_all {s : Sr} {tg : Td} {Γ : En} {elt : Ed} {P : Sto → Prop} {R : D → D → Prop} (xs : List D) (hit : ∀ i S, P S → itS s i S = some xs[i]?)
    (hel : ∀ d ∈ xs, ∀ S, P S → ∃ Γ1, tg d Γ = some Γ1 ∧ ∃ y S', elt Γ1 S = .ok y S' ∧ P S' ∧ R d y) (hbig : xs.length ≤ big) :
    ∀ (n i : Nat) (acc : List D) (S : Sto), P S → i ≤ xs.length → n = xs.length - i + 1 → acc.length = i → ∃ ys S', lcL s tg Γ bYes elt n i acc S = .ok (acc ++ ys) S' ∧ P S' ∧ Paired R (xs.drop i) ys
  | 0, i, acc, S, hP, hi, hn, ha => by omega
  | n + 1, i, acc, S, hP, hi, hn, ha => by
    unfold lcL
    rw [hit i S hP]
    by_cases h : i < xs.length
    · rw [List.getElem?_eq_getElem h]
      obtain ⟨Γ1, e1, y, S', e2, hP', hR⟩ := hel xs[i] (List.getElem_mem h) S hP
      have hz : acc.length < big := by omega
      obtain ⟨ys, S2, e3, hP2, hp⟩ := lcL_all xs hit hel hbig n (i + 1) (acc ++ [y]) S' hP' (by omega) (by omega) (by simp [ha])
      refine ⟨y :: ys, S2, ?_, hP2, ?_⟩
      · simp only [e1, bYes, e2, hz, if_true, e3]
        simp
      · rw [List.drop_eq_getElem_cons h]
        exact .cons hR hp
    · refine ⟨[], S, ?_, hP, ?_⟩
      · have : xs[i]? = none := List.getElem?_eq_none (by omega)
        rw [this]
        simp
      · rw [List.drop_eq_nil_of_le (by omega)]
        exact .nil
/-- range(n) -/
def rgD (n : Nat) : List D := (List.range n).map fun i : Nat => D.int (i : Int)
theorem rg_it (n i : Nat) (S : Sto) : itS (.rng 0 n) i S = some (rgD n)[i]? := by
  unfold itS rgD
  rw [List.getElem?_map]
  by_cases h : i < n
  · rw [List.getElem?_range h]
    simp [h]
  · rw [List.getElem?_eq_none (by simp; omega)]
    simp [h]
/-! ## items -/
inductive It where
  | num (i : Nat) | lost | use (s : Str) | grp (k : Nat) (xs : List It) | lt (s : Str) (xs : List It)
def kindS : Nat → Str
  | 0 => "block"
  | 1 => "sum"
  | _ => "product"
mutual
def itD : It → D
  | .num i => .tup [.str "number", .int i]
  | .lost => .tup [.str "lost"]
  | .use s => .tup [.str "use", .str s]
  | .grp k xs => .tup [.str (kindS k), .tup (itDs xs)]
  | .lt s xs => .tup [.str "let", .str s, .tup (itDs xs)]
def itDs : List It → List D
  | [] => []
  | x :: xs => itD x :: itDs xs
end
def names : List Str := ["a", "b", "ab", "x1", "b12", "zzzz", "q99"]
mutual
/-- an item of at most d storeys, as _law_item makes it -/
def Good : Nat → It → Prop
  | _, .num i => i < 100
  | _, .lost => True
  | _, .use s => s ∈ names
  | 0, .grp _ _ => False
  | 0, .lt _ _ => False
  | d + 1, .grp k xs => k < 3 ∧ xs.length ≤ 3 ∧ Goods d xs
  | d + 1, .lt s xs => s ∈ names ∧ xs.length ≤ 3 ∧ Goods d xs
def Goods : Nat → List It → Prop
  | _, [] => True
  | d, x :: xs => Good d x ∧ Goods d xs
end
def namesD : D := .lst (names.map D.str)
theorem paired_goods {d : Nat} : ∀ {xs ys : List D}, Paired (fun _ y => ∃ it, y = itD it ∧ Good d it) xs ys → ∃ its, ys = itDs its ∧ Goods d its ∧ its.length = xs.length
  | _, _, .nil => ⟨[], rfl, True.intro, rfl⟩
  | _, _, .cons h t => by
    obtain ⟨it, rfl, g⟩ := h
    obtain ⟨its, rfl, gs, hl⟩ := paired_goods t
    exact ⟨it :: its, rfl, ⟨g, gs⟩, by simp [hl]⟩
end K68
end

section
set_option Elab.async false
set_option linter.all false
set_option maxRecDepth 100000
set_option maxHeartbeats 2000000
namespace K68
open PySem PySem.Spec PyProof.Rows L2 Fx
theorem dEq_str {x y : Str} (hx : PyData.strOk x = true) (hy : PyData.strOk y = true) (S : Sto) : dEqG false (.str x) (.str y) S = .ok (.bl (x == y)) S := by
  simp [dEqG, toPyS, toPy, SeqAt.shaped, PyData.eqv, PyData.canLay0, PyData.depth, hx, hy]
theorem dNe_str {x y : Str} (hx : PyData.strOk x = true) (hy : PyData.strOk y = true) (S : Sto) : dEqG true (.str x) (.str y) S = .ok (.bl (!(x == y))) S := by
  simp [dEqG, toPyS, toPy, SeqAt.shaped, PyData.eqv, PyData.canLay0, PyData.depth, hx, hy]
@[simp] theorem dEq_int (x y : Int) (S : Sto) : dEqG false (.int x) (.int y) S = .ok (.bl (x == y)) S := by
  simp [dEqG, toPyS, toPy, SeqAt.shaped, PyData.eqv, PyData.canLay0, PyData.depth]
@[simp] theorem dNe_int (x y : Int) (S : Sto) : dEqG true (.int x) (.int y) S = .ok (.bl (!(x == y))) S := by
  simp [dEqG, toPyS, toPy, SeqAt.shaped, PyData.eqv, PyData.canLay0, PyData.depth]
theorem names_ne (S : Sto) : dEqG false namesD (.lst []) S = .ok (.bl false) S := by
  simp [dEqG, namesD, names, toPyS, toPy, toPys, SeqAt.shaped, PyData.eqv, PyData.eqvAll]
  decide +kernel
theorem names_sq (S : Sto) : dSq S namesD = some (names.map D.str) := rfl
theorem names_sq2 (S : Sto) : dSq S (.lst (names.map D.str ++ [.str "b"])) = some (names.map D.str ++ [.str "b"]) := rfl
theorem names_mem {d : D} (h : d ∈ names.map D.str ++ [.str "b"]) : ∃ s, d = .str s ∧ s ∈ names := by
  rw [List.mem_append] at h
  rcases h with h | h
  · obtain ⟨s, hs, rfl⟩ := List.mem_map.mp h
    exact ⟨s, rfl, hs⟩
  · rw [List.mem_singleton] at h
    exact ⟨"b", h, by simp [names]⟩
theorem nat_ne0 (d : Nat) : (((d + 1 : Nat) : Int) == 0) = false := by
  rw [beq_eq_false_iff_ne]
  omega
/-- a leaf -/
theorem leaf_ev (A : Ads) {S : Sto} {n : Nat} (hn : n < S.length) (rec : Fn) (d : Nat) (a b : Int) {w a1 b1 : Int} (e1 : m__law_take A [.ref n, .int 9] (Sp S n a b) = .ok (.int w) (Sp S n a1 b1)) (hd : d = 0 ∨ w < 4) :
    ∃ it a' b', runF 6 (b__law_item A rec) [.ref n, .int d, namesD] (Sp S n a b) = .ok (itD it) (Sp S n a' b') ∧ Good d it := by
  have hc : ∀ Γ S1, Γ[1]? = some (some (.int d)) → Γ[3]? = some (some (.int w)) → (mOr (mT (mOp dEq (mVar 1) (mC (.int 0)))) (mT (mOp dLt (mVar 3) (mC (.int 4))))) Γ S1 = .ok true S1 := fun Γ S1 h1 h3 => by
    rcases hd with hd | hd
    · subst hd
      simp [mOr, mT, mOp, mVar_ev h1, Res.bind]
    · cases d with
      | zero => simp [mOr, mT, mOp, mVar_ev h1, Res.bind]
      | succ d =>
        simp [mOr, mT, mOp, mVar_ev h1, mVar_ev h3, Res.bind, dII, hd]
        split <;> rfl
  unfold b__law_item
  generalize (mOr (mT (mOp dEq (mVar 1) (mC (.int 0)))) (mT (mOp dLt (mVar 3) (mC (.int 4))))) = cnd at hc
  by_cases h3 : w = 3
  · obtain ⟨v, a2, b2, e2, v0, v1⟩ := take_ev A hn a1 b1 (k := 100) (by decide) (by decide)
    refine ⟨.num v.toNat, a2, b2, ?_, by show v.toNat < 100; omega⟩
    have hv : ((v.toNat : Nat) : Int) = v := by omega
    subst h3
    simp [runF, enter, sSeq, sIf, sAsg, sRet, mOr, mT, mOp, mVar, gN, mCall, arg, aCons, mTup, e1, e2, hc, Res.bind, Res.toS, itD, hv, big]
  · have w3 : (w == 3) = false := by rw [beq_eq_false_iff_ne]; exact h3
    by_cases h2 : w = 2
    · refine ⟨.lost, a1, b1, ?_, True.intro⟩
      subst h2
      simp [runF, enter, sSeq, sIf, sAsg, sRet, sPass, mOr, mT, mOp, mVar, gN, mCall, arg, aCons, aNil, mTup, mLst, mkL, mIf, e1, hc, Res.bind, Res.toS, itD, big, names_ne]
    · have w2 : (w == 2) = false := by rw [beq_eq_false_iff_ne]; exact h2
      obtain ⟨x, a2, b2, e2, hx⟩ := one_ev A hn a1 b1 (t := namesD) (fun _ _ => rfl) (fun _ => by simp [namesD]) (by simp [names]) (by simp [names])
      obtain ⟨s, hs, rfl⟩ := List.mem_map.mp hx
      refine ⟨.use s, a2, b2, ?_, by cases d <;> exact hs⟩
      simp [runF, enter, sSeq, sIf, sAsg, sRet, sPass, mOr, mT, mOp, mVar, gN, mCall, arg, aCons, aNil, mTup, mLst, mkL, mIf, e1, e2, hc, Res.bind, Res.toS, itD, big, names_ne, w3, w2]

theorem goods_mem {d : Nat} {xs : List It} (h : Goods d xs) : ∀ x ∈ xs, Good d x := by
  induction xs with
  | nil => intro x hx; simp at hx
  | cons y ys ih =>
    intro x hx
    rcases List.mem_cons.mp hx with rfl | hx
    · exact h.1
    · exact ih h.2 x hx
/-- the members -/
theorem rows_ev (A : Ads) {S : Sto} {n : Nat} (hn : n < S.length) {rec : Fn} {d : Nat} (ih : ∀ a b, ∃ it a' b', rec [.ref n, .int d, namesD] (Sp S n a b) = .ok (itD it) (Sp S n a' b') ∧ Good d it) {Γ : En} {k j : Nat} {de : Ed} (tk : Int) (h0 : 0 ≤ tk) (h1 : tk < 1000)
    (hw : (wipeE Γ [j])[0]? = some (some (.ref n))) (hj : j ≠ 0) (hde : ∀ d' S1, de ((wipeE Γ [j]).set j (some d')) S1 = .ok (.int d) S1) {ne : Ed} (hne : ∀ d' S1, ne ((wipeE Γ [j]).set j (some d')) S1 = .ok namesD S1) (a b : Int) :
    ∃ its a' b', lcL (.rng 0 tk.toNat) (gN j) (wipeE Γ [j]) bYes (mCall 3 rec (aCons (mVar 0) (aCons de (aCons ne aNil)))) (lenS (.rng 0 tk.toNat) (Sp S n a b)) 0 [] (Sp S n a b) = .ok (itDs its) (Sp S n a' b') ∧ Goods d its ∧ its.length = tk.toNat := by
  obtain ⟨ys, S', e, ⟨a', b', rfl⟩, hp⟩ := lcL_all (s := .rng 0 tk.toNat) (tg := gN j) (Γ := wipeE Γ [j]) (elt := mCall 3 rec (aCons (mVar 0) (aCons de (aCons ne aNil)))) (P := fun S' => ∃ a b, S' = Sp S n a b) (R := fun _ y => ∃ it, y = itD it ∧ Good d it) (rgD tk.toNat)
    (fun i S1 _ => rg_it _ i S1) (fun d' _ S1 hS => by
      obtain ⟨a, b, rfl⟩ := hS
      obtain ⟨it, a', b', e, g⟩ := ih a b
      refine ⟨_, rfl, itD it, _, ?_, ⟨a', b', rfl⟩, it, rfl, g⟩
      have hw' : ((wipeE Γ [j]).set j (some d'))[0]? = some (some (.ref n)) := by rw [List.getElem?_set_ne hj]; exact hw
      simp [mCall, arg, aCons, mVar_ev hw', hde, hne, Res.bind, e]) (by simp [rgD, big]; omega) (lenS (.rng 0 tk.toNat) (Sp S n a b)) 0 [] _ ⟨a, b, rfl⟩ (by omega) (by simp [lenS, rgD]) rfl
  obtain ⟨its, rfl, g, hl⟩ := paired_goods hp
  exact ⟨its, a', b', by simpa using e, g, by simpa [rgD] using hl⟩
theorem branch_ev (A : Ads) {S : Sto} {n : Nat} (hn : n < S.length) (rec : Fn) (d : Nat) (a b : Int) {w a1 b1 : Int} (e1 : m__law_take A [.ref n, .int 9] (Sp S n a b) = .ok (.int w) (Sp S n a1 b1)) (h4 : 4 ≤ w) (h9 : w < 9)
    (ih : ∀ a b, ∃ it a' b', rec [.ref n, .int d, namesD] (Sp S n a b) = .ok (itD it) (Sp S n a' b') ∧ Good d it) :
    ∃ it a' b', runF 6 (b__law_item A rec) [.ref n, .int (d + 1 : Nat), namesD] (Sp S n a b) = .ok (itD it) (Sp S n a' b') ∧ Good (d + 1) it := by
  obtain ⟨v, a2, b2, e2, v0, v1⟩ := take_ev A hn a1 b1 (k := 4) (by decide) (by decide)
  have hb : InB v := by unfold InB; omega
  obtain ⟨its, a3, b3, e3, g, hl⟩ := rows_ev A hn ih (Γ := [some (.ref n), some (.int (d + 1 : Nat)), some namesD, some (.int w), none, none]) (k := 0) (j := 5) (de := mOp dSub (mVar 1) (mC (.int 1))) (ne := mVar 2) v v0 (by omega) rfl (by decide)
    (fun d' S1 => by simp [mOp, mVar, wipeE, dII, Res.bind]) (fun d' S1 => by simp [mVar, wipeE]) a2 b2
  have hc : ¬ (w < 4) := by omega
  have hd1 : ((d : Int) + 1 == 0) = false := nat_ne0 d
  have e3 : lcL (.rng 0 v.toNat) (gN 5) [some (.ref n), some (.int ((d : Int) + 1)), some namesD, some (.int w), none, none] bYes (mCall 3 rec (aCons (mVar 0) (aCons (mOp dSub (mVar 1) (mC (.int 1))) (aCons (mVar 2) aNil)))) (v.toNat + 1) 0 [] (Sp S n a2 b2) = .ok (itDs its) (Sp S n a3 b3) := e3
  by_cases h7 : w < 7
  · refine ⟨.grp (w - 4).toNat its, a3, b3, ?_, by omega, by omega, g⟩
    have hix : dIx (.lst [.str "block", .str "sum", .str "product"]) (.int (w - 4)) (Sp S n a3 b3) = .ok (.str (kindS (w - 4).toNat)) (Sp S n a3 b3) := by
      have : w = 4 ∨ w = 5 ∨ w = 6 := by omega
      rcases this with rfl | rfl | rfl <;> rfl
    simp [b__law_item, runF, enter, sSeq, sIf, sAsg, sRet, sPass, mOr, mT, mOp, mVar, gN, mCall, arg, aCons, aNil, mTup, mLst, mkL, mBlt, fTuple, dL, mLc, iRg, rng1, hb, wipeE, lenS, e1, e2, e3, hc, hd1, h7, hix, dII, Res.bind, Res.toS, itD, big]
  · obtain ⟨x, a4, b4, e4, hx⟩ := one_ev A hn a3 b3 (t := .lst (names.map D.str ++ [.str "b"])) (fun _ _ => rfl) (fun _ => by simp) (by simp) (by simp [names])
    obtain ⟨s, rfl, hs⟩ := names_mem hx
    refine ⟨.lt s its, a4, b4, ?_, hs, by omega, g⟩
    have hadd : dAdd true namesD (.lst [.str "b"]) (Sp S n a3 b3) = .ok (.lst (names.map D.str ++ [.str "b"])) (Sp S n a3 b3) := by
      simp [dAdd, namesD, dLs, names, big, mkL]
    simp [b__law_item, runF, enter, sSeq, sIf, sAsg, sRet, sPass, mOr, mT, mOp, mVar, gN, mCall, arg, aCons, aNil, mTup, mLst, mkL, mBlt, fTuple, dL, mLc, iRg, rng1, hb, wipeE, lenS, e1, e2, e3, e4, hc, hd1, h7, hadd, dII, Res.bind, Res.toS, itD, big]
theorem item_ev (A : Ads) {S : Sto} {n : Nat} (hn : n < S.length) : ∀ (fuel d : Nat) (a b : Int), d < fuel → ∃ it a' b', m__law_item A fuel [.ref n, .int d, namesD] (Sp S n a b) = .ok (itD it) (Sp S n a' b') ∧ Good d it
  | 0, d, a, b, h => absurd h (by omega)
  | fuel + 1, d, a, b, h => by
    obtain ⟨w, a1, b1, e1, w0, w1⟩ := take_ev A hn a b (k := 9) (by decide) (by decide)
    by_cases hd : d = 0 ∨ w < 4
    · exact leaf_ev A hn (m__law_item A fuel) d a b e1 hd
    · cases d with
      | zero => exact absurd (.inl rfl) hd
      | succ d => exact branch_ev A hn (m__law_item A fuel) d a b e1 (by omega) w1 fun a b => item_ev A hn fuel d a b (by omega)
/-- the whole program: at most four items of at most three storeys -/
theorem prog_ev (A : Ads) {S : Sto} {n : Nat} (hn : n < S.length) (a b : Int) : ∃ its a' b', m__law_program A [.ref n, namesD] (Sp S n a b) = .ok (.tup (itDs its)) (Sp S n a' b') ∧ Goods 3 its ∧ its.length ≤ 4 := by
  obtain ⟨v, a2, b2, e2, v0, v1⟩ := take_ev A hn a b (k := 5) (by decide) (by decide)
  have hb : InB v := by unfold InB; omega
  obtain ⟨its, a3, b3, e3, g, hl⟩ := rows_ev A hn (rec := m__law_item A 12) (d := 3) (fun a b => item_ev A hn 12 3 a b (by decide)) (Γ := [some (.ref n), some namesD, none]) (j := 2) (k := 0) (de := mC (.int 3)) (ne := mVar 1) v v0 (by omega) rfl (by decide)
    (fun d' S1 => rfl) (fun d' S1 => by simp [mVar, wipeE]) a2 b2
  refine ⟨its, a3, b3, ?_, g, by omega⟩
  have e3 : lcL (.rng 0 v.toNat) (gN 2) [some (.ref n), some namesD, none] bYes (mCall 3 (m__law_item A 12) (aCons (mVar 0) (aCons (mC (.int 3)) (aCons (mVar 1) aNil)))) (v.toNat + 1) 0 [] (Sp S n a2 b2) = .ok (itDs its) (Sp S n a3 b3) := e3
  have e2 : mCall 2 (m__law_take A) (aCons (mVar 0) (aCons (mC (.int 5)) aNil)) [some (.ref n), some namesD, none] (Sp S n a b) = .ok (.int v) (Sp S n a2 b2) := by simp [mCall, arg, aCons, mVar, Res.bind, e2]
  simp only [m__law_program, runF, enter, sRet, mBlt, aCons, aNil, mLc, iRg]
  simp [e2, rng1, hb, wipeE, lenS, e3, mkL, fTuple, dL, Res.bind, Res.toS]
end K68
end

section
set_option Elab.async false
set_option linter.all false
set_option maxRecDepth 100000
set_option maxHeartbeats 2000000
namespace K68
open PySem PySem.Spec PyProof.Rows L2 Fx TL
/-! ## words -/
mutual
def wl : It → List Nat
  | .num i => numL i
  | .lost => [63]
  | .use s => tl s
  | .grp 0 [] => [40, 41]
  | .grp 0 (x :: xs) => 40 :: (wl x ++ (sp xs ++ [41]))
  | .grp 1 xs => 40 :: 43 :: (sp xs ++ [41])
  | .grp _ xs => 40 :: 42 :: (sp xs ++ [41])
  | .lt s xs => 40 :: (tl s ++ 32 :: 61 :: (sp xs ++ [41]))
/-- each with a blank ahead -/
def sp : List It → List Nat
  | [] => []
  | x :: xs => 32 :: (wl x ++ sp xs)
end
def jn : List It → List Nat
  | [] => []
  | x :: xs => wl x ++ sp xs
abbrev Sr' (l : List Nat) : Str := ⟨l.toArray⟩
def Wd' : Nat → Nat
  | 0 => 4
  | d + 1 => 3 * (Wd' d + 1) + 8
theorem names_len {s : Str} (h : s ∈ names) : (tl s).length ≤ 4 := by
  simp only [names, List.mem_cons, List.not_mem_nil, or_false] at h
  rcases h with rfl | rfl | rfl | rfl | rfl | rfl | rfl <;> decide +kernel
theorem W_ge : ∀ d, 4 ≤ Wd' d
  | 0 => Nat.le_refl _
  | d + 1 => by show 4 ≤ 3 * (Wd' d + 1) + 8; omega
theorem numL_small {i : Nat} (h : i < 100) : (numL i).length ≤ 2 := numL_len (k := 2) (by decide) (by simpa using h)
mutual
theorem wl_len : ∀ {d : Nat} {it : It}, Good d it → (wl it).length ≤ Wd' d
  | d, .num i, h => by
    have h : i < 100 := by cases d <;> exact h
    have := numL_small h
    have := W_ge d
    show (numL i).length ≤ _
    omega
  | d, .lost, h => by have := W_ge d; show 1 ≤ _; omega
  | d, .use s, h => by
    have h : s ∈ names := by cases d <;> exact h
    have := names_len h
    have := W_ge d
    show (tl s).length ≤ _
    omega
  | 0, .grp _ _, h => h.elim
  | 0, .lt _ _, h => h.elim
  | d + 1, .grp 0 [], h => by have := W_ge (d + 1); show 2 ≤ _; omega
  | d + 1, .grp 0 (x :: xs), h => by
    obtain ⟨_, hl, g⟩ := h
    have h1 := wl_len g.1
    have h2 := sp_len g.2
    have hx : xs.length ≤ 2 := by simpa using hl
    have hm : xs.length * (Wd' d + 1) ≤ 2 * (Wd' d + 1) := Nat.mul_le_mul_right _ hx
    show (40 :: (wl x ++ (sp xs ++ [41]))).length ≤ 3 * (Wd' d + 1) + 8
    simp only [List.length_cons, List.length_append, List.length_nil]
    omega
  | d + 1, .grp 1 xs, h => by
    obtain ⟨_, hl, g⟩ := h
    have h2 := sp_len g
    have hm : xs.length * (Wd' d + 1) ≤ 3 * (Wd' d + 1) := Nat.mul_le_mul_right _ hl
    show (40 :: 43 :: (sp xs ++ [41])).length ≤ 3 * (Wd' d + 1) + 8
    simp only [List.length_cons, List.length_append, List.length_nil]
    omega
  | d + 1, .grp (k + 2) xs, h => by
    obtain ⟨_, hl, g⟩ := h
    have h2 := sp_len g
    have hm : xs.length * (Wd' d + 1) ≤ 3 * (Wd' d + 1) := Nat.mul_le_mul_right _ hl
    show (40 :: 42 :: (sp xs ++ [41])).length ≤ 3 * (Wd' d + 1) + 8
    simp only [List.length_cons, List.length_append, List.length_nil]
    omega
  | d + 1, .lt s xs, h => by
    obtain ⟨hs, hl, g⟩ := h
    have h2 := sp_len g
    have h3 := names_len hs
    have hm : xs.length * (Wd' d + 1) ≤ 3 * (Wd' d + 1) := Nat.mul_le_mul_right _ hl
    show (40 :: (tl s ++ 32 :: 61 :: (sp xs ++ [41]))).length ≤ 3 * (Wd' d + 1) + 8
    simp only [List.length_cons, List.length_append, List.length_nil]
    omega
theorem sp_len : ∀ {d : Nat} {xs : List It}, Goods d xs → (sp xs).length ≤ xs.length * (Wd' d + 1)
  | d, [], _ => Nat.zero_le _
  | d, x :: xs, g => by
    have h1 := wl_len g.1
    have h2 := sp_len g.2
    show (32 :: (wl x ++ sp xs)).length ≤ (xs.length + 1) * (Wd' d + 1)
    rw [Nat.add_mul]
    simp only [List.length_cons, List.length_append]
    omega
end
theorem joinL_sp : ∀ (xs : List It) (p : List Nat), joinL [32] (p :: xs.map wl) = p ++ sp xs
  | [], p => by show p = p ++ []; rw [List.append_nil]
  | x :: xs, p => by
    show p ++ ([32] ++ joinL [32] (wl x :: xs.map wl)) = _
    rw [joinL_sp xs (wl x)]
    show _ = p ++ (32 :: (wl x ++ sp xs))
    simp
/-! ## the cost of a shown item -/
def Cst : Nat → Nat
  | 0 => 90
  | d + 1 => 3 * Cst d + 120

theorem C_ge : ∀ d, 90 ≤ Cst d
  | 0 => Nat.le_refl _
  | d + 1 => by show 90 ≤ 3 * Cst d + 120; omega
theorem sh_str {k : Nat} {x : Str} (h1 : (x.cps.toList.all fun c => decide (c < 16 ^ 8)) = true) (h2 : x.length ≤ 1000000) : shD k (.str x) = some (10 * x.length + 2) := by
  rw [shD, if_pos ⟨h1, h2⟩]
theorem sh_name {k : Nat} {s : Str} (h : s ∈ names) : ∃ n, shD k (.str s) = some n ∧ n ≤ 42 := by
  have hl := names_len h
  rw [← len_tl] at hl
  refine ⟨_, sh_str ?_ (by omega), by omega⟩
  simp only [names, List.mem_cons, List.not_mem_nil, or_false] at h
  rcases h with rfl | rfl | rfl | rfl | rfl | rfl | rfl <;> decide +kernel
theorem sh_kind {k j : Nat} : ∃ n, shD k (.str (kindS j)) = some n ∧ n ≤ 72 := by
  match j with
  | 0 => exact ⟨_, sh_str (by decide +kernel) (by decide +kernel), by decide +kernel⟩
  | 1 => exact ⟨_, sh_str (by decide +kernel) (by decide +kernel), by decide +kernel⟩
  | j + 2 => exact ⟨_, sh_str (x := "product") (by decide +kernel) (by decide +kernel), by decide +kernel⟩
theorem sh_int {k i : Nat} (h : i < 100) : ∃ n, shD k (.int i) = some n ∧ n ≤ 2 := by
  have hl : ((Str.ofString (toString ((i : Nat) : Int)))).length ≤ 2 := by
    rw [len_tl, tl_num]
    exact numL_small h
  refine ⟨_, ?_, hl⟩
  rw [shD, if_pos]
  refine ⟨?_, by omega⟩
  have : (i : Int).natAbs.log2 ≤ 7 := by
    have : (i : Int).natAbs = i := by omega
    rw [this]
    by_cases h0 : i = 0
    · subst h0; decide
    · exact Nat.le_of_lt_succ ((Nat.log2_lt h0).mpr (by omega))
  omega
theorem sh_tup {k : Nat} {xs : List D} {ns : List Nat} (h : shDs k xs = some ns) : shD (k + 1) (.tup xs) = some (sum2 ns + 5) := by
  rw [shD, h]
  rfl
theorem shs_cons {k : Nat} {x : D} {xs : List D} {n : Nat} {ns : List Nat} (h1 : shD k x = some n) (h2 : shDs k xs = some ns) : shDs k (x :: xs) = some (n :: ns) := by
  rw [shDs, h1, h2]
  rfl
theorem shs_nil {k : Nat} : shDs k [] = some [] := by rw [shDs]
mutual
theorem sh_it : ∀ {d k : Nat} {it : It}, Good d it → 2 * d + 2 ≤ k → ∃ n, shD k (itD it) = some n ∧ n ≤ Cst d
  | d, k + 1, .num i, h, hk => by
    have h : i < 100 := by cases d <;> exact h
    obtain ⟨n, e, hn⟩ := sh_int (k := k) h
    have := C_ge d
    refine ⟨_, sh_tup (shs_cons (sh_str (x := "number") (by decide +kernel) (by decide +kernel)) (shs_cons e shs_nil)), ?_⟩
    rw [sum2_cons, sum2_cons, show ("number" : Str).length = 6 from by decide +kernel]
    have z : sum2 [] = 0 := rfl
    omega
  | d, k + 1, .lost, h, hk => by
    have := C_ge d
    refine ⟨_, sh_tup (shs_cons (sh_str (x := "lost") (by decide +kernel) (by decide +kernel)) shs_nil), ?_⟩
    rw [sum2_cons, show ("lost" : Str).length = 4 from by decide +kernel]
    have z : sum2 [] = 0 := rfl
    omega
  | d, k + 1, .use s, h, hk => by
    have h : s ∈ names := by cases d <;> exact h
    obtain ⟨n, e, hn⟩ := sh_name (k := k) h
    have := C_ge d
    refine ⟨_, sh_tup (shs_cons (sh_str (x := "use") (by decide +kernel) (by decide +kernel)) (shs_cons e shs_nil)), ?_⟩
    rw [sum2_cons, sum2_cons, show ("use" : Str).length = 3 from by decide +kernel]
    have z : sum2 [] = 0 := rfl
    omega
  | 0, _, .grp _ _, h, _ => h.elim
  | 0, _, .lt _ _, h, _ => h.elim
  | d + 1, k + 2, .grp j xs, h, hk => by
    obtain ⟨_, hl, g⟩ := h
    obtain ⟨ns, e, hs⟩ := sh_its (k := k) g (by omega)
    obtain ⟨n, e2, hn⟩ := sh_kind (k := k + 1) (j := j)
    have hm : xs.length * (Cst d + 2) ≤ 3 * (Cst d + 2) := Nat.mul_le_mul_right _ hl
    refine ⟨_, sh_tup (shs_cons e2 (shs_cons (sh_tup e) shs_nil)), ?_⟩
    rw [sum2_cons, sum2_cons]
    have z : sum2 [] = 0 := rfl
    show _ ≤ 3 * Cst d + 120
    omega
  | d + 1, k + 2, .lt s xs, h, hk => by
    obtain ⟨h3, hl, g⟩ := h
    obtain ⟨ns, e, hs⟩ := sh_its (k := k) g (by omega)
    obtain ⟨n, e2, hn⟩ := sh_name (k := k + 1) h3
    have hm : xs.length * (Cst d + 2) ≤ 3 * (Cst d + 2) := Nat.mul_le_mul_right _ hl
    refine ⟨_, sh_tup (shs_cons (sh_str (x := "let") (by decide +kernel) (by decide +kernel)) (shs_cons e2 (shs_cons (sh_tup e) shs_nil))), ?_⟩
    rw [sum2_cons, sum2_cons, sum2_cons, show ("let" : Str).length = 3 from by decide +kernel]
    have z : sum2 [] = 0 := rfl
    show _ ≤ 3 * Cst d + 120
    omega
  | _, 0, .num _, _, hk => by omega
  | _, 0, .lost, _, hk => by omega
  | _, 0, .use _, _, hk => by omega
  | d + 1, 0, .grp _ _, _, hk => by omega
  | d + 1, 0, .lt _ _, _, hk => by omega
  | d + 1, 1, .grp _ _, _, hk => by omega
  | d + 1, 1, .lt _ _, _, hk => by omega
theorem sh_its : ∀ {d k : Nat} {xs : List It}, Goods d xs → 2 * d + 2 ≤ k → ∃ ns, shDs k (itDs xs) = some ns ∧ sum2 ns ≤ xs.length * (Cst d + 2)
  | d, k, [], _, _ => ⟨[], shs_nil, Nat.zero_le _⟩
  | d, k, x :: xs, g, hk => by
    obtain ⟨n, e, hn⟩ := sh_it g.1 hk
    obtain ⟨ns, e2, hs⟩ := sh_its g.2 hk
    refine ⟨_, shs_cons e e2, ?_⟩
    rw [sum2_cons]
    show _ ≤ (xs.length + 1) * (Cst d + 2)
    rw [Nat.add_mul]
    omega
end
end K68
end

section
set_option Elab.async false
set_option linter.all false
set_option maxRecDepth 100000
set_option maxHeartbeats 4000000
namespace K68
open PySem PySem.Spec PyProof.Rows L2 Fx TL
theorem ok_number : PyData.strOk ("number" : Str) = true := by decide +kernel
theorem eq_number_number : (("number" : Str) == ("number" : Str)) = true := by decide +kernel
theorem eq_number_lost : (("number" : Str) == ("lost" : Str)) = false := by decide +kernel
theorem eq_number_use : (("number" : Str) == ("use" : Str)) = false := by decide +kernel
theorem eq_number_block : (("number" : Str) == ("block" : Str)) = false := by decide +kernel
theorem eq_number_sum : (("number" : Str) == ("sum" : Str)) = false := by decide +kernel
theorem eq_number_product : (("number" : Str) == ("product" : Str)) = false := by decide +kernel
theorem eq_number_let : (("number" : Str) == ("let" : Str)) = false := by decide +kernel
theorem ok_lost : PyData.strOk ("lost" : Str) = true := by decide +kernel
theorem eq_lost_number : (("lost" : Str) == ("number" : Str)) = false := by decide +kernel
theorem eq_lost_lost : (("lost" : Str) == ("lost" : Str)) = true := by decide +kernel
theorem eq_lost_use : (("lost" : Str) == ("use" : Str)) = false := by decide +kernel
theorem eq_lost_block : (("lost" : Str) == ("block" : Str)) = false := by decide +kernel
theorem eq_lost_sum : (("lost" : Str) == ("sum" : Str)) = false := by decide +kernel
theorem eq_lost_product : (("lost" : Str) == ("product" : Str)) = false := by decide +kernel
theorem eq_lost_let : (("lost" : Str) == ("let" : Str)) = false := by decide +kernel
theorem ok_use : PyData.strOk ("use" : Str) = true := by decide +kernel
theorem eq_use_number : (("use" : Str) == ("number" : Str)) = false := by decide +kernel
theorem eq_use_lost : (("use" : Str) == ("lost" : Str)) = false := by decide +kernel
theorem eq_use_use : (("use" : Str) == ("use" : Str)) = true := by decide +kernel
theorem eq_use_block : (("use" : Str) == ("block" : Str)) = false := by decide +kernel
theorem eq_use_sum : (("use" : Str) == ("sum" : Str)) = false := by decide +kernel
theorem eq_use_product : (("use" : Str) == ("product" : Str)) = false := by decide +kernel
theorem eq_use_let : (("use" : Str) == ("let" : Str)) = false := by decide +kernel
theorem ok_block : PyData.strOk ("block" : Str) = true := by decide +kernel
theorem eq_block_number : (("block" : Str) == ("number" : Str)) = false := by decide +kernel
theorem eq_block_lost : (("block" : Str) == ("lost" : Str)) = false := by decide +kernel
theorem eq_block_use : (("block" : Str) == ("use" : Str)) = false := by decide +kernel
theorem eq_block_block : (("block" : Str) == ("block" : Str)) = true := by decide +kernel
theorem eq_block_sum : (("block" : Str) == ("sum" : Str)) = false := by decide +kernel
theorem eq_block_product : (("block" : Str) == ("product" : Str)) = false := by decide +kernel
theorem eq_block_let : (("block" : Str) == ("let" : Str)) = false := by decide +kernel
theorem ok_sum : PyData.strOk ("sum" : Str) = true := by decide +kernel
theorem eq_sum_number : (("sum" : Str) == ("number" : Str)) = false := by decide +kernel
theorem eq_sum_lost : (("sum" : Str) == ("lost" : Str)) = false := by decide +kernel
theorem eq_sum_use : (("sum" : Str) == ("use" : Str)) = false := by decide +kernel
theorem eq_sum_block : (("sum" : Str) == ("block" : Str)) = false := by decide +kernel
theorem eq_sum_sum : (("sum" : Str) == ("sum" : Str)) = true := by decide +kernel
theorem eq_sum_product : (("sum" : Str) == ("product" : Str)) = false := by decide +kernel
theorem eq_sum_let : (("sum" : Str) == ("let" : Str)) = false := by decide +kernel
theorem ok_product : PyData.strOk ("product" : Str) = true := by decide +kernel
theorem eq_product_number : (("product" : Str) == ("number" : Str)) = false := by decide +kernel
theorem eq_product_lost : (("product" : Str) == ("lost" : Str)) = false := by decide +kernel
theorem eq_product_use : (("product" : Str) == ("use" : Str)) = false := by decide +kernel
theorem eq_product_block : (("product" : Str) == ("block" : Str)) = false := by decide +kernel
theorem eq_product_sum : (("product" : Str) == ("sum" : Str)) = false := by decide +kernel
theorem eq_product_product : (("product" : Str) == ("product" : Str)) = true := by decide +kernel
theorem eq_product_let : (("product" : Str) == ("let" : Str)) = false := by decide +kernel
theorem ok_let : PyData.strOk ("let" : Str) = true := by decide +kernel
theorem eq_let_number : (("let" : Str) == ("number" : Str)) = false := by decide +kernel
theorem eq_let_lost : (("let" : Str) == ("lost" : Str)) = false := by decide +kernel
theorem eq_let_use : (("let" : Str) == ("use" : Str)) = false := by decide +kernel
theorem eq_let_block : (("let" : Str) == ("block" : Str)) = false := by decide +kernel
theorem eq_let_sum : (("let" : Str) == ("sum" : Str)) = false := by decide +kernel
theorem eq_let_product : (("let" : Str) == ("product" : Str)) = false := by decide +kernel
theorem eq_let_let : (("let" : Str) == ("let" : Str)) = true := by decide +kernel
theorem de_number_number (S : Sto) : dEqG false (.str "number") (.str "number") S = .ok (.bl true) S := by rw [dEq_str ok_number ok_number, eq_number_number]
theorem de_number_lost (S : Sto) : dEqG false (.str "number") (.str "lost") S = .ok (.bl false) S := by rw [dEq_str ok_number ok_lost, eq_number_lost]
theorem de_number_use (S : Sto) : dEqG false (.str "number") (.str "use") S = .ok (.bl false) S := by rw [dEq_str ok_number ok_use, eq_number_use]
theorem de_number_block (S : Sto) : dEqG false (.str "number") (.str "block") S = .ok (.bl false) S := by rw [dEq_str ok_number ok_block, eq_number_block]
theorem de_lost_number (S : Sto) : dEqG false (.str "lost") (.str "number") S = .ok (.bl false) S := by rw [dEq_str ok_lost ok_number, eq_lost_number]
theorem de_lost_lost (S : Sto) : dEqG false (.str "lost") (.str "lost") S = .ok (.bl true) S := by rw [dEq_str ok_lost ok_lost, eq_lost_lost]
theorem de_lost_use (S : Sto) : dEqG false (.str "lost") (.str "use") S = .ok (.bl false) S := by rw [dEq_str ok_lost ok_use, eq_lost_use]
theorem de_lost_block (S : Sto) : dEqG false (.str "lost") (.str "block") S = .ok (.bl false) S := by rw [dEq_str ok_lost ok_block, eq_lost_block]
theorem de_use_number (S : Sto) : dEqG false (.str "use") (.str "number") S = .ok (.bl false) S := by rw [dEq_str ok_use ok_number, eq_use_number]
theorem de_use_lost (S : Sto) : dEqG false (.str "use") (.str "lost") S = .ok (.bl false) S := by rw [dEq_str ok_use ok_lost, eq_use_lost]
theorem de_use_use (S : Sto) : dEqG false (.str "use") (.str "use") S = .ok (.bl true) S := by rw [dEq_str ok_use ok_use, eq_use_use]
theorem de_use_block (S : Sto) : dEqG false (.str "use") (.str "block") S = .ok (.bl false) S := by rw [dEq_str ok_use ok_block, eq_use_block]
theorem de_block_number (S : Sto) : dEqG false (.str "block") (.str "number") S = .ok (.bl false) S := by rw [dEq_str ok_block ok_number, eq_block_number]
theorem de_block_lost (S : Sto) : dEqG false (.str "block") (.str "lost") S = .ok (.bl false) S := by rw [dEq_str ok_block ok_lost, eq_block_lost]
theorem de_block_use (S : Sto) : dEqG false (.str "block") (.str "use") S = .ok (.bl false) S := by rw [dEq_str ok_block ok_use, eq_block_use]
theorem de_block_block (S : Sto) : dEqG false (.str "block") (.str "block") S = .ok (.bl true) S := by rw [dEq_str ok_block ok_block, eq_block_block]
theorem de_sum_number (S : Sto) : dEqG false (.str "sum") (.str "number") S = .ok (.bl false) S := by rw [dEq_str ok_sum ok_number, eq_sum_number]
theorem de_sum_lost (S : Sto) : dEqG false (.str "sum") (.str "lost") S = .ok (.bl false) S := by rw [dEq_str ok_sum ok_lost, eq_sum_lost]
theorem de_sum_use (S : Sto) : dEqG false (.str "sum") (.str "use") S = .ok (.bl false) S := by rw [dEq_str ok_sum ok_use, eq_sum_use]
theorem de_sum_block (S : Sto) : dEqG false (.str "sum") (.str "block") S = .ok (.bl false) S := by rw [dEq_str ok_sum ok_block, eq_sum_block]
theorem de_product_number (S : Sto) : dEqG false (.str "product") (.str "number") S = .ok (.bl false) S := by rw [dEq_str ok_product ok_number, eq_product_number]
theorem de_product_lost (S : Sto) : dEqG false (.str "product") (.str "lost") S = .ok (.bl false) S := by rw [dEq_str ok_product ok_lost, eq_product_lost]
theorem de_product_use (S : Sto) : dEqG false (.str "product") (.str "use") S = .ok (.bl false) S := by rw [dEq_str ok_product ok_use, eq_product_use]
theorem de_product_block (S : Sto) : dEqG false (.str "product") (.str "block") S = .ok (.bl false) S := by rw [dEq_str ok_product ok_block, eq_product_block]
theorem de_let_number (S : Sto) : dEqG false (.str "let") (.str "number") S = .ok (.bl false) S := by rw [dEq_str ok_let ok_number, eq_let_number]
theorem de_let_lost (S : Sto) : dEqG false (.str "let") (.str "lost") S = .ok (.bl false) S := by rw [dEq_str ok_let ok_lost, eq_let_lost]
theorem de_let_use (S : Sto) : dEqG false (.str "let") (.str "use") S = .ok (.bl false) S := by rw [dEq_str ok_let ok_use, eq_let_use]
theorem de_let_block (S : Sto) : dEqG false (.str "let") (.str "block") S = .ok (.bl false) S := by rw [dEq_str ok_let ok_block, eq_let_block]

theorem ix_0 (x : D) (xs : List D) (S : Sto) : dIx (.tup (x :: xs)) (.int 0) S = .ok x S := by
  have : atI (x :: xs) 0 = some x := by
    rw [atI_nat (by decide) (by simp only [List.length_cons]; omega)]
    rfl
  simp [dIx, dSq, this]
theorem ix_1 (x y : D) (xs : List D) (S : Sto) : dIx (.tup (x :: y :: xs)) (.int 1) S = .ok y S := by
  have : atI (x :: y :: xs) 1 = some y := by
    rw [atI_nat (by decide) (by simp only [List.length_cons]; omega)]
    rfl
  simp [dIx, dSq, this]
theorem ix_m2 (x y : D) (S : Sto) : dIx (.tup [x, y]) (.int (-1)) S = .ok y S := rfl
theorem ix_m3 (x y z : D) (S : Sto) : dIx (.tup [x, y, z]) (.int (-1)) S = .ok z S := rfl
theorem itDs_get : ∀ (xs : List It) (d : D), d ∈ itDs xs → ∃ it ∈ xs, d = itD it
  | [], d, h => by simp [itDs] at h
  | x :: xs, d, h => by
    rw [itDs] at h
    rcases List.mem_cons.mp h with rfl | h
    · exact ⟨x, List.mem_cons_self .., rfl⟩
    · obtain ⟨it, h1, h2⟩ := itDs_get xs d h
      exact ⟨it, List.mem_cons_of_mem _ h1, h2⟩
theorem itDs_len : ∀ xs : List It, (itDs xs).length = xs.length
  | [] => rfl
  | x :: xs => by rw [itDs, List.length_cons, List.length_cons, itDs_len xs]
/-- the words of the members -/
def wds (xs : List It) : List D := xs.map fun it => .str (Sr' (wl it))
theorem wds_cons (x : It) (xs : List It) : wds (x :: xs) = .str (Sr' (wl x)) :: wds xs := rfl
theorem words_ev {rec : Fn} {d : Nat} {S : Sto} (ih : ∀ it, Good d it → rec [itD it] S = .ok (.str (Sr' (wl it))) S) {Γ : En} {i : Nat} (hi : i < Γ.length) : ∀ (xs : List It), Goods d xs → xs.length ≤ 1000 →
    lcL (.tup (itDs xs)) (gN i) Γ bYes (mCall 1 rec (aCons (mVar i) aNil)) (xs.length + 1) 0 [] S = .ok (wds xs) S := fun xs g hl => by
  have core : ∀ (n k : Nat) (acc : List D), n = xs.length - k + 1 → k ≤ xs.length → acc.length = k → lcL (.tup (itDs xs)) (gN i) Γ bYes (mCall 1 rec (aCons (mVar i) aNil)) n k acc S = .ok (acc ++ wds (xs.drop k)) S := by
    intro n
    induction n with
    | zero => intro k acc h1 h2 h3; omega
    | succ n ihn =>
      intro k acc h1 h2 h3
      have hgen : ∀ (ys : List It) (k : Nat), (itDs ys)[k]? = (ys[k]?).map itD := by
        intro ys
        induction ys with
        | nil => intro k; simp [itDs]
        | cons y ys ihy =>
          intro k
          cases k with
          | zero => simp [itDs]
          | succ k => simp [itDs, ihy]
      unfold lcL
      by_cases hk : k < xs.length
      · have e1 : itS (.tup (itDs xs)) k S = some (some (itD xs[k])) := by
          show some (itDs xs)[k]? = _
          rw [hgen, List.getElem?_eq_getElem hk]
          rfl
        have gk : Good d xs[k] := goods_mem g _ (List.getElem_mem hk)
        have hv : (Γ.set i (some (itD xs[k])))[i]? = some (some (itD xs[k])) := List.getElem?_set_self hi
        have hz : acc.length < big := by
          have : big = 1000000 := rfl
          omega
        have e2 := ihn (k + 1) (acc ++ [.str (Sr' (wl xs[k]))]) (by omega) (by omega) (by simp [h3])
        have q : wds (xs.drop k) = .str (Sr' (wl xs[k])) :: wds (xs.drop (k + 1)) := by
          rw [List.drop_eq_getElem_cons hk]
          rfl
        rw [q]
        simp [e1, gN, bYes, mCall, arg, aCons, aNil, mVar_ev hv, Res.bind, ih _ gk, hz] at e2 ⊢
        exact e2
      · have e1 : itS (.tup (itDs xs)) k S = some none := by
          show some (itDs xs)[k]? = _
          rw [hgen, List.getElem?_eq_none (by omega)]
          rfl
        rw [e1, List.drop_eq_nil_of_le (by omega)]
        simp [wds]
  simpa using core (xs.length + 1) 0 [] (by omega) (by omega) rfl
theorem strs_wds : ∀ xs : List It, strsD (wds xs) = some (xs.map fun it => Sr' (wl it))
  | [] => rfl
  | x :: xs => by
    show (strsD (wds xs)).map _ = _
    rw [strs_wds xs]
    rfl
end K68
end

section
set_option Elab.async false
set_option linter.all false
set_option maxRecDepth 100000
set_option maxHeartbeats 4000000
namespace K68
open PySem PySem.Spec PyProof.Rows L2 Fx TL
theorem tl_blank : tl (" " : Str) = [32] := by decide +kernel
theorem sr_len (l : List Nat) : (Sr' l).length = l.length := by rw [len_tl]
theorem join_L (o : Option Str) (xs : List It) : Txt.join " " ((o.map fun x => [x]).getD [] ++ xs.map fun it => Sr' (wl it)) = Sr' (joinL [32] (((o.map fun x => [tl x]).getD []) ++ xs.map wl)) := by
  rw [join_eq]
  refine ext_tl ?_
  rw [tl_join, tl_blank, tl_mk, List.map_append, List.map_map]
  have e : (tl ∘ fun it => Sr' (wl it)) = wl := by
    funext it
    rfl
  rw [e]
  cases o <;> rfl
theorem sum_wl {d : Nat} : ∀ {xs : List It}, Goods d xs → ((xs.map fun it => Sr' (wl it)).map (·.length)).sum ≤ xs.length * Wd' d
  | [], _ => Nat.zero_le _
  | x :: xs, g => by
    have h1 := wl_len g.1
    have h2 := sum_wl g.2
    rw [List.map_cons, List.map_cons, List.sum_cons, List.length_cons, Nat.add_mul]
    have : (Sr' (wl x)).length = (wl x).length := sr_len _
    simp only [this]
    omega
theorem W_le : ∀ {d : Nat}, d ≤ 4 → Wd' d ≤ 1000
  | 0, _ => by decide
  | 1, _ => by decide
  | 2, _ => by decide
  | 3, _ => by decide
  | 4, _ => by decide
  | d + 5, h => by omega
theorem dJoin_ev {d : Nat} {xs : List It} (g : Goods d xs) (hd : d ≤ 4) (hl : xs.length ≤ 100) (S : Sto) : dJoin (.str " ") (.lst (wds xs)) S = .ok (.str (Sr' (jn xs))) S := by
  have h1 := sum_wl g
  have h2 := W_le hd
  have h3 : xs.length * Wd' d ≤ 100 * 1000 := Nat.mul_le_mul hl h2
  have hb : (" " : Str).length = 1 := by decide +kernel
  have hz : ((xs.map fun it => Sr' (wl it)).map (·.length)).sum + (xs.map fun it => Sr' (wl it)).length * (" " : Str).length ≤ big := by
    rw [hb, List.length_map]
    have : big = 1000000 := rfl
    omega
  have e : Txt.join " " (xs.map fun it => Sr' (wl it)) = Sr' (jn xs) := by
    have := join_L none xs
    simp only [Option.map_none, Option.getD_none, List.nil_append] at this
    rw [this]
    cases xs with
    | nil => rfl
    | cons x xs =>
      show Sr' (joinL [32] (wl x :: xs.map wl)) = _
      rw [joinL_sp]
      rfl
  have e1 : dSq S (.lst (wds xs)) = some (wds xs) := rfl
  simp only [dJoin, e1, strs_wds]
  rw [if_pos hz, e]
theorem dJoin_o {d : Nat} {xs : List It} (g : Goods d xs) (hd : d ≤ 4) (hl : xs.length ≤ 100) (o : Str) (ho : o.length ≤ 100) (S : Sto) : dJoin (.str " ") (.lst (.str o :: wds xs)) S = .ok (.str (Sr' (tl o ++ sp xs))) S := by
  have h1 := sum_wl g
  have h2 := W_le hd
  have h3 : xs.length * Wd' d ≤ 100 * 1000 := Nat.mul_le_mul hl h2
  have hb : (" " : Str).length = 1 := by decide +kernel
  have e0 : strsD (.str o :: wds xs) = some (o :: xs.map fun it => Sr' (wl it)) := by
    show (strsD (wds xs)).map _ = _
    rw [strs_wds]
    rfl
  have hz : ((o :: xs.map fun it => Sr' (wl it)).map (·.length)).sum + (o :: xs.map fun it => Sr' (wl it)).length * (" " : Str).length ≤ big := by
    rw [hb, List.length_cons, List.length_map, List.map_cons, List.sum_cons]
    have : big = 1000000 := rfl
    omega
  have e : Txt.join " " (o :: xs.map fun it => Sr' (wl it)) = Sr' (tl o ++ sp xs) := by
    have := join_L (some o) xs
    simp only [Option.map_some, Option.getD_some, List.singleton_append] at this
    rw [this, joinL_sp]
  have e1 : dSq S (.lst (.str o :: wds xs)) = some (.str o :: wds xs) := rfl
  simp only [dJoin, e1, e0]
  rw [if_pos hz, e]
theorem add_ss {f : Bool} (a b : List Nat) (S : Sto) (h : a.length + b.length ≤ 100000) : dAdd f (.str (Sr' a)) (.str (Sr' b)) S = .ok (.str (Sr' (a ++ b))) S := by
  have e : Sr' a ++ Sr' b = Sr' (a ++ b) := ext_tl (by rw [tl_append])
  have z : (Sr' a).length + (Sr' b).length ≤ big := by
    rw [sr_len, sr_len]
    have : big = 1000000 := rfl
    omega
  show (if (Sr' a).length + (Sr' b).length ≤ big then Res.ok (D.str (Sr' a ++ Sr' b)) S else Res.bad) = _
  rw [if_pos z, e]
theorem lit_op : ("(" : Str) = Sr' [40] := ext_tl (by decide +kernel)
theorem lit_cl : (")" : Str) = Sr' [41] := ext_tl (by decide +kernel)
theorem lit_eq : (" =" : Str) = Sr' [32, 61] := ext_tl (by decide +kernel)
theorem lit_qm : ("?" : Str) = Sr' [63] := ext_tl (by decide +kernel)
theorem lit_pl : ("(+" : Str) = Sr' [40, 43] := ext_tl (by decide +kernel)
theorem lit_ti : ("(*" : Str) = Sr' [40, 42] := ext_tl (by decide +kernel)
theorem lst_add {f : Bool} (x : D) (xs : List D) (S : Sto) (h : xs.length ≤ 1000) : dAdd true (.lst [x]) (.lst xs) S = .ok (.lst (x :: xs)) S := by
  have : big = 1000000 := rfl
  have z : 1 + xs.length ≤ big := by omega
  simp [dAdd, dLs, mkL, z]

theorem str_num {i : Nat} (h : i < 100) (S : Sto) : fStr [.int i] S = .ok (.str (Sr' (numL i))) S := by
  have h1 : (i : Int).natAbs.log2 < 1920 := by
    have : (i : Int).natAbs = i := by omega
    rw [this]
    by_cases h0 : i = 0
    · subst h0; decide
    · have := (Nat.log2_lt (k := 7) h0).mpr (by omega)
      omega
  show (if (i : Int).natAbs.log2 < 1920 then Res.ok (D.str (Str.ofString (toString ((i : Nat) : Int)))) S else Res.bad) = _
  rw [if_pos h1]
  have e : Str.ofString (toString ((i : Nat) : Int)) = Sr' (numL i) := ext_tl (by rw [tl_num])
  rw [e]
theorem str_tup {d : Nat} {xs : List It} (g : Goods d xs) (hd : d ≤ 4) (hl : xs.length ≤ 3) (S : Sto) : ∃ n, fStr [.tup (itDs xs)] S = .ok (.opq n) S ∧ n ≤ 100000 := by
  obtain ⟨ns, e, hs⟩ := sh_its (k := 100) g (by omega)
  have hC : ∀ d, d ≤ 4 → Cst d ≤ 20000 := by
    intro d hd
    match d, hd with
    | 0, _ => decide
    | 1, _ => decide
    | 2, _ => decide
    | 3, _ => decide
    | 4, _ => decide
    | d + 5, h => omega
  have h1 := hC d hd
  have hm : xs.length * (Cst d + 2) ≤ 3 * (Cst d + 2) := Nat.mul_le_mul_right _ hl
  have hb : big = 1000000 := rfl
  refine ⟨sum2 ns + 5, ?_, by omega⟩
  show (match shDs 100 (itDs xs) with | some ns => if sum2 ns + 5 ≤ big then Res.ok (D.opq (sum2 ns + 5)) S else .bad | none => .bad) = _
  rw [e]
  exact if_pos (by omega)
theorem add_so {f : Bool} (a : List Nat) (n : Nat) (S : Sto) (h : a.length + n ≤ 200000) : dAdd f (.str (Sr' a)) (.opq n) S = .ok (.opq (a.length + n)) S := by
  have hb : big = 1000000 := rfl
  show (if (Sr' a).length + n ≤ big then Res.ok (D.opq ((Sr' a).length + n)) S else Res.bad) = _
  rw [sr_len, if_pos (by omega)]
theorem add_os {f : Bool} (a : List Nat) (n : Nat) (S : Sto) (h : n + a.length ≤ 200000) : dAdd f (.opq n) (.str (Sr' a)) S = .ok (.opq (n + a.length)) S := by
  have hb : big = 1000000 := rfl
  show (if n + (Sr' a).length ≤ big then Res.ok (D.opq (n + (Sr' a).length)) S else Res.bad) = _
  rw [sr_len, if_pos (by omega)]
theorem ne_sp : ¬ (("sum" : Str) = "product") := by decide +kernel
theorem ne_ps : ¬ (("product" : Str) = "sum") := by decide +kernel
theorem ne_sl : ¬ (("sum" : Str) = "let") := by decide +kernel
theorem ne_pl : ¬ (("product" : Str) = "let") := by decide +kernel
/-- {'sum': '(+', 'product': '(*'}.get(item[0], '(' + str(item[1]) + ' =') -/
abbrev opE : Ed := mDget2 (mDct [Sum.inr ("sum" : Str), Sum.inr ("product" : Str)] (aCons (mC (.str ("(+" : Str))) (aCons (mC (.str ("(*" : Str))) aNil))) (mOp dIx (mVar 0) (mC (.int 0))) (mOp (dAdd true) (mOp (dAdd true) (mC (.str ("(" : Str))) (mBlt fStr (aCons (mOp dIx (mVar 0) (mC (.int 1))) aNil))) (mC (.str (" =" : Str))))
theorem op_tup {d : Nat} {xs : List It} (g : Goods d xs) (hd : d ≤ 4) (hl : xs.length ≤ 3) {k : Str} (r : List (Option D)) (S : Sto) {o : Str} (hk : (k = "sum" ∧ o = "(+") ∨ (k = "product" ∧ o = "(*")) : opE (some (.tup [.str k, .tup (itDs xs)]) :: r) S = .ok (.str o) S := by
  obtain ⟨n, e, hn⟩ := str_tup g hd hl S
  have e1 := add_so (f := true) [40] n S (by simp; omega)
  have e2 := add_os (f := true) [32, 61] (1 + n) S (by simp; omega)
  rcases hk with ⟨rfl, rfl⟩ | ⟨rfl, rfl⟩
  · simp [opE, mDget2, mDct, aCons, aNil, isDct, mOp, mVar, ix_0, ix_1, mBlt, e, lit_op, lit_eq, e1, e2, dDg, keyOf, lookK, ne_sp, ne_ps, Res.bind]
  · simp [opE, mDget2, mDct, aCons, aNil, isDct, mOp, mVar, ix_0, ix_1, mBlt, e, lit_op, lit_eq, e1, e2, dDg, keyOf, lookK, ne_sp, ne_ps, Res.bind]
theorem op_let {s : Str} (hs : s ∈ names) (x : D) (r : List (Option D)) (S : Sto) : opE (some (.tup [.str "let", .str s, x]) :: r) S = .ok (.str (Sr' (40 :: (tl s ++ [32, 61])))) S := by
  have hl := names_len hs
  have e1 := add_ss (f := true) [40] (tl s) S (by simp only [List.length_cons, List.length_nil]; omega)
  have e2 := add_ss (f := true) ([40] ++ tl s) [32, 61] S (by simp only [List.length_cons, List.length_append, List.length_nil]; omega)
  have e3 : Sr' (tl s) = s := mk_tl s
  rw [e3] at e1
  simp [opE, mDget2, mDct, aCons, aNil, isDct, mOp, mVar, ix_0, ix_1, mBlt, fStr, lit_op, lit_eq, e1, e2, dDg, keyOf, lookK, ne_sp, ne_ps, ne_sl, ne_pl, Res.bind] at e2 ⊢
theorem word_ev (A : Ads) (S : Sto) : ∀ (fuel d : Nat) (it : It), Good d it → d ≤ 4 → d < fuel → m__law_word A fuel [itD it] S = .ok (.str (Sr' (wl it))) S
  | 0, d, it, g, hd, hf => absurd hf (by omega)
  | fuel + 1, d, .num i, g, hd, hf => by
    have h : i < 100 := by cases d <;> exact g
    simp [m__law_word, b__law_word, itD, wl, runF, enter, sSeq, sIf, sRet, sPass, mT, mOp, mVar, mBlt, aCons, ix_0, ix_1, de_number_number, str_num h, Res.bind, Res.toS]
  | fuel + 1, d, .lost, g, hd, hf => by
    simp [m__law_word, b__law_word, itD, wl, runF, enter, sSeq, sIf, sRet, sPass, mT, mOp, mVar, mBlt, aCons, ix_0, ix_1, de_lost_number, de_lost_lost, lit_qm, Res.bind, Res.toS]
  | fuel + 1, d, .use s, g, hd, hf => by
    have e : Sr' (tl s) = s := mk_tl s
    simp [m__law_word, b__law_word, itD, wl, runF, enter, sSeq, sIf, sRet, sPass, mT, mOp, mVar, mBlt, aCons, ix_0, ix_1, de_use_number, de_use_lost, de_use_use, e, Res.bind, Res.toS]
  | fuel + 1, 0, .grp _ _, g, _, _ => g.elim
  | fuel + 1, 0, .lt _ _, g, _, _ => g.elim
  | fuel + 1, d + 1, .grp 0 xs, g, hd, hf => by
    obtain ⟨_, hl, gs⟩ := g
    have ih : ∀ it, Good d it → m__law_word A fuel [itD it] S = .ok (.str (Sr' (wl it))) S := fun it gi => word_ev A S fuel d it gi (by omega) (by omega)
    have ew := words_ev ih (Γ := [some (itD (.grp 0 xs)), none, none, none]) (i := 3) (by simp) xs gs (by omega)
    have ej := dJoin_ev gs (by omega) (by omega : xs.length ≤ 100) S
    have hj : (jn xs).length ≤ 10000 := by
      have h1 := sp_len gs
      have h2 := W_le (d := d) (by omega)
      have hm : xs.length * (Wd' d + 1) ≤ 3 * (Wd' d + 1) := Nat.mul_le_mul_right _ hl
      cases xs with
      | nil => exact Nat.zero_le _
      | cons x xs =>
        have : (jn (x :: xs)).length ≤ (sp (x :: xs)).length := by simp [jn, sp]
        omega
    have e1 := add_ss (f := true) [40] (jn xs) S (by simp; omega)
    have e2 := add_ss (f := true) ([40] ++ jn xs) [41] S (by simp; omega)
    have ewl : [40] ++ jn xs ++ [41] = wl (.grp 0 xs) := by
      cases xs with
      | nil => rfl
      | cons x xs =>
        rw [wl]
        simp [jn]
    rw [ewl] at e2
    simp only [itD, kindS] at ew
    simp [m__law_word, b__law_word, itD, runF, enter, sSeq, sIf, sAsg, gN, sRet, sPass, mT, mOp, mVar, mBlt, aCons, ix_0, ix_1, ix_m2, mUn, dNeg, kindS, de_block_number, de_block_lost, de_block_use, de_block_block, mLc, iTupD, wipeE, lenS, itDs_len, ew, mkL, mJoin, isStr, ej, lit_op, lit_cl, e1, Res.bind, Res.toS] at e2 ⊢
    rw [e2]
  | fuel + 1, d + 1, .grp 1 xs, g, hd, hf => by
    obtain ⟨_, hl, gs⟩ := g
    have ih : ∀ it, Good d it → m__law_word A fuel [itD it] S = .ok (.str (Sr' (wl it))) S := fun it gi => word_ev A S fuel d it gi (by omega) (by omega)
    have ew := words_ev ih (Γ := [some (.tup [.str "sum", .tup (itDs xs)]), none, none, none]) (i := 3) (by simp) xs gs (by omega)
    have ho := op_tup gs (by omega) hl (k := "sum") (o := "(+") [some (.lst (wds xs)), none, none] S (.inl ⟨rfl, rfl⟩)
    have ej := dJoin_o gs (by omega) (by omega : xs.length ≤ 100) "(+" (by decide +kernel) S
    have ea := lst_add (f := true) (.str "(+") (wds xs) S (by simp [wds]; omega)
    have h1 := sp_len gs
    have h2 := W_le (d := d) (by omega)
    have hm : xs.length * (Wd' d + 1) ≤ 3 * (Wd' d + 1) := Nat.mul_le_mul_right _ hl
    have e2 := add_ss (f := true) ([40, 43] ++ sp xs) [41] S (by simp; omega)
    have et : tl ("(+" : Str) = [40, 43] := by decide +kernel
    rw [et] at ej
    have ewl : [40, 43] ++ sp xs ++ [41] = wl (.grp 1 xs) := by
      rw [wl] <;> simp
    rw [ewl] at e2
    simp only [m__law_word, b__law_word, itD, kindS, runF, enter]
    simp [sSeq, sIf, sAsg, gN, sRet, sPass, mT, mOp, mVar, mBlt, aCons, aNil, ix_0, ix_1, ix_m2, mUn, dNeg, de_sum_number, de_sum_lost, de_sum_use, de_sum_block, mLc, iTupD, wipeE, lenS, itDs_len, ew, mkL, ho, mLst, big, ea, mJoin, isStr, ej, lit_cl, Res.bind, Res.toS] at e2 ⊢
    rw [e2]
  | fuel + 1, d + 1, .grp (k + 2) xs, g, hd, hf => by
    obtain ⟨_, hl, gs⟩ := g
    have ih : ∀ it, Good d it → m__law_word A fuel [itD it] S = .ok (.str (Sr' (wl it))) S := fun it gi => word_ev A S fuel d it gi (by omega) (by omega)
    have ew := words_ev ih (Γ := [some (.tup [.str "product", .tup (itDs xs)]), none, none, none]) (i := 3) (by simp) xs gs (by omega)
    have ho := op_tup gs (by omega) hl (k := "product") (o := "(*") [some (.lst (wds xs)), none, none] S (.inr ⟨rfl, rfl⟩)
    have ej := dJoin_o gs (by omega) (by omega : xs.length ≤ 100) "(*" (by decide +kernel) S
    have ea := lst_add (f := true) (.str "(*") (wds xs) S (by simp [wds]; omega)
    have h1 := sp_len gs
    have h2 := W_le (d := d) (by omega)
    have hm : xs.length * (Wd' d + 1) ≤ 3 * (Wd' d + 1) := Nat.mul_le_mul_right _ hl
    have e2 := add_ss (f := true) ([40, 42] ++ sp xs) [41] S (by simp; omega)
    have et : tl ("(*" : Str) = [40, 42] := by decide +kernel
    rw [et] at ej
    have ewl : [40, 42] ++ sp xs ++ [41] = wl (.grp (k + 2) xs) := by
      rw [wl] <;> simp
    rw [ewl] at e2
    simp only [m__law_word, b__law_word, itD, kindS, runF, enter]
    simp [sSeq, sIf, sAsg, gN, sRet, sPass, mT, mOp, mVar, mBlt, aCons, aNil, ix_0, ix_1, ix_m2, mUn, dNeg, de_product_number, de_product_lost, de_product_use, de_product_block, mLc, iTupD, wipeE, lenS, itDs_len, ew, mkL, ho, mLst, big, ea, mJoin, isStr, ej, lit_cl, Res.bind, Res.toS] at e2 ⊢
    rw [e2]
  | fuel + 1, d + 1, .lt s xs, g, hd, hf => by
    obtain ⟨hs, hl, gs⟩ := g
    have ih : ∀ it, Good d it → m__law_word A fuel [itD it] S = .ok (.str (Sr' (wl it))) S := fun it gi => word_ev A S fuel d it gi (by omega) (by omega)
    have ew := words_ev ih (Γ := [some (.tup [.str "let", .str s, .tup (itDs xs)]), none, none, none]) (i := 3) (by simp) xs gs (by omega)
    have ho := op_let hs (.tup (itDs xs)) [some (.lst (wds xs)), none, none] S
    have hsl := names_len hs
    have ej : dJoin (.str " ") (.lst (.str (Sr' (40 :: (tl s ++ [32, 61]))) :: wds xs)) S = .ok (.str (Sr' (40 :: (tl s ++ [32, 61] ++ sp xs)))) S := dJoin_o gs (by omega) (by omega : xs.length ≤ 100) (Sr' (40 :: (tl s ++ [32, 61]))) (by rw [sr_len]; simp only [List.length_cons, List.length_append, List.length_nil]; omega) S
    have ea := lst_add (f := true) (.str (Sr' (40 :: (tl s ++ [32, 61])))) (wds xs) S (by simp [wds]; omega)
    have h1 := sp_len gs
    have h2 := W_le (d := d) (by omega)
    have hm : xs.length * (Wd' d + 1) ≤ 3 * (Wd' d + 1) := Nat.mul_le_mul_right _ hl
    have e2 := add_ss (f := true) ((40 :: (tl s ++ [32, 61])) ++ sp xs) [41] S (by simp only [List.length_cons, List.length_append, List.length_nil]; omega)
    have ewl : (40 :: (tl s ++ [32, 61])) ++ sp xs ++ [41] = wl (.lt s xs) := by
      rw [wl] <;> simp
    rw [ewl] at e2
    simp only [m__law_word, b__law_word, itD, kindS, runF, enter]
    simp only [List.cons_append] at e2
    simp [sSeq, sIf, sAsg, gN, sRet, sPass, mT, mJoin, mLst, mLc, mkL, mOp, mVar, mBlt, aCons, aNil, ix_0, ix_1, ix_m3, mUn, dNeg, de_let_number, de_let_lost, de_let_use, de_let_block, iTupD, wipeE, lenS, itDs_len, ew, ho, big, ea, isStr, ej, lit_cl, Res.bind, Res.toS]
    simp at e2
    rw [e2]
end K68
end

section
set_option Elab.async false
set_option linter.all false
set_option maxRecDepth 100000
set_option maxHeartbeats 4000000
namespace K68
open PySem PySem.Spec PyProof.Rows L2 Fx TL
theorem text_ev (A : Ads) (S : Sto) {xs : List It} (g : Goods 3 xs) (hl : xs.length ≤ 4) : m__law_text A [.tup (itDs xs)] S = .ok (.str (Sr' (jn xs))) S := by
  have ih : ∀ it, Good 3 it → m__law_word A 12 [itD it] S = .ok (.str (Sr' (wl it))) S := fun it gi => word_ev A S 12 3 it gi (by omega) (by omega)
  have ew := words_ev ih (Γ := [some (.tup (itDs xs)), none]) (i := 1) (by simp) xs g (by omega)
  have ej := dJoin_ev g (by omega) (by omega : xs.length ≤ 100) S
  simp [m__law_text, runF, enter, sRet, mJoin, mLc, iTupD, mVar, wipeE, lenS, itDs_len, ew, mkL, isStr, ej, Res.bind, Res.toS]
theorem lpF_all {s : Sr} {tg : Td} {b : Sd} {I : Nat → En → Sto → Prop} (xs : List D) (hit : ∀ i Γ S, I i Γ S → itS s i S = some xs[i]?)
    (hb : ∀ i (h : i < xs.length) Γ S, I i Γ S → ∃ Γ1, tg xs[i] Γ = some Γ1 ∧ ∃ Γ2 S2, b Γ1 S = .nx Γ2 S2 ∧ I (i + 1) Γ2 S2) :
    ∀ (n i : Nat) (Γ : En) (S : Sto), I i Γ S → i ≤ xs.length → n = xs.length - i + 1 → ∃ Γ' S', lpF s tg b n i Γ S = .nx Γ' S' ∧ I xs.length Γ' S'
  | 0, i, Γ, S, hI, hi, hn => by omega
  | n + 1, i, Γ, S, hI, hi, hn => by
    unfold lpF
    rw [hit i Γ S hI]
    by_cases h : i < xs.length
    · obtain ⟨Γ1, e1, Γ2, S2, e2, hI2⟩ := hb i h Γ S hI
      obtain ⟨Γ3, S3, e3, hI3⟩ := lpF_all xs hit hb n (i + 1) Γ2 S2 hI2 (by omega) (by omega)
      rw [List.getElem?_eq_getElem h]
      exact ⟨Γ3, S3, by simp [e1, e2, e3], hI3⟩
    · have : i = xs.length := by omega
      subst this
      exact ⟨Γ, S, by rw [List.getElem?_eq_none (Nat.le_refl _)], hI⟩
/-! ## the law's spans -/
abbrev Row := List Nat × Nat × Nat
def off : Nat → Nat
  | 0 => 1
  | _ => 3
mutual
def spn : It → List Nat → Nat → List Row
  | .num i, own, f => [(own, f, f + (wl (.num i)).length)]
  | .lost, own, f => [(own, f, f + (wl .lost).length)]
  | .use s, own, f => [(own, f, f + (wl (.use s)).length)]
  | .grp k xs, own, f => (own, f, f + (wl (.grp k xs)).length) :: spns xs own 0 (f + off k)
  | .lt s xs, own, f => (own, f, f + (wl (.lt s xs)).length) :: spns xs own 0 (f + ((tl s).length + 4))
def spns : List It → List Nat → Nat → Nat → List Row
  | [], _, _, _ => []
  | x :: xs, p, k, f => spn x (p ++ [k]) f ++ spns xs p (k + 1) (f + (wl x).length + 1)
end
def pathD (p : List Nat) : D := .tup (p.map fun i : Nat => D.int (i : Int))
def rowD (r : Row) : D := .tup [pathD r.1, .int r.2.1, .int r.2.2]
def Nn : Nat → Nat
  | 0 => 1
  | d + 1 => 3 * Nn d + 1
theorem N_ge : ∀ d, 1 ≤ Nn d
  | 0 => Nat.le_refl _
  | d + 1 => by show 1 ≤ 3 * Nn d + 1; omega
mutual
theorem spn_len : ∀ {d : Nat} {it : It} (p : List Nat) (f : Nat), Good d it → (spn it p f).length ≤ Nn d
  | d, .num _, p, f, g => by rw [spn]; exact N_ge d
  | d, .lost, p, f, g => by rw [spn]; exact N_ge d
  | d, .use _, p, f, g => by rw [spn]; exact N_ge d
  | 0, .grp _ _, _, _, g => g.elim
  | 0, .lt _ _, _, _, g => g.elim
  | d + 1, .grp k xs, p, f, g => by
    have h := spns_len p 0 (f + off k) g.2.2
    have hm : xs.length * Nn d ≤ 3 * Nn d := Nat.mul_le_mul_right _ g.2.1
    rw [spn, List.length_cons]
    show _ ≤ 3 * Nn d + 1
    omega
  | d + 1, .lt s xs, p, f, g => by
    have h := spns_len p 0 (f + ((tl s).length + 4)) g.2.2
    have hm : xs.length * Nn d ≤ 3 * Nn d := Nat.mul_le_mul_right _ g.2.1
    rw [spn, List.length_cons]
    show _ ≤ 3 * Nn d + 1
    omega
theorem spns_len : ∀ {d : Nat} {xs : List It} (p : List Nat) (k f : Nat), Goods d xs → (spns xs p k f).length ≤ xs.length * Nn d
  | d, [], _, _, _, _ => Nat.zero_le _
  | d, x :: xs, p, k, f, g => by
    have h1 := spn_len (p ++ [k]) f g.1
    have h2 := spns_len p (k + 1) (f + (wl x).length + 1) g.2
    rw [spns, List.length_append, List.length_cons, Nat.add_mul]
    omega
end
theorem N_le : ∀ {d : Nat}, d ≤ 4 → Nn d ≤ 200
  | 0, _ => by decide
  | 1, _ => by decide
  | 2, _ => by decide
  | 3, _ => by decide
  | 4, _ => by decide
  | d + 5, h => by omega
theorem itDs_ix {xs : List It} {k : Nat} (h : k < xs.length) (S : Sto) : dIx (.tup (itDs xs)) (.int k) S = .ok (itD xs[k]) S := by
  have hg : ∀ (ys : List It) (k : Nat), (itDs ys)[k]? = (ys[k]?).map itD := by
    intro ys
    induction ys with
    | nil => intro k; simp [itDs]
    | cons y ys ihy =>
      intro k
      cases k with
      | zero => simp [itDs]
      | succ k => simp [itDs, ihy]
  have : atI (itDs xs) (k : Int) = some (itD xs[k]) := by
    rw [atI_nat (by omega) (by rw [itDs_len]; omega)]
    show (itDs xs)[k]? = _
    rw [hg, List.getElem?_eq_getElem h]
    rfl
  simp [dIx, dSq, this]
theorem len_str (l : List Nat) (S : Sto) (h : l.length ≤ 100000) : fLen [.str (Sr' l)] S = .ok (.int l.length) S := by
  have hb : big = 1000000 := rfl
  show (if (Sr' l).length ≤ big then Res.ok (D.int (Sr' l).length) S else Res.bad) = _
  rw [sr_len, if_pos (by omega)]
theorem path_add {f : Bool} (p : List Nat) (k : Nat) (S : Sto) (h : p.length ≤ 100) : dAdd f (pathD p) (.tup [.int (k : Int)]) S = .ok (pathD (p ++ [k])) S := by
  have hb : big = 1000000 := rfl
  show (if (p.map fun i : Nat => D.int (i : Int)).length + [D.int (k : Int)].length ≤ big then Res.ok (D.tup ((p.map fun i : Nat => D.int (i : Int)) ++ [D.int (k : Int)])) S else Res.bad) = _
  rw [if_pos (by simp; omega)]
  simp [pathD]

theorem add_ii (f : Bool) (i j : Int) (S : Sto) : dAdd f (.int i) (.int j) S = .ok (.int (i + j)) S := rfl
def rowsD (l : List Row) : List D := l.map rowD
theorem pre_set {α : Type} {S0 S : List α} {m : Nat} (x : α) (h : S0 <+: S) (hm : S0.length ≤ m) : S0 <+: S.set m x := by
  obtain ⟨t, rfl⟩ := h
  rw [List.set_append_right _ _ hm]
  exact ⟨_, rfl⟩
theorem append_ev {o e : Ed} {Γ : En} {S : Sto} {m : Nat} {acc : List D} {y : D} (ho : o Γ S = .ok (.ref m) S) (he : e Γ S = .ok y S) (hS : S[m]? = some (.lst acc)) (hl : acc.length ≤ 100000) : mAppend o e Γ S = .ok .non (S.set m (.lst (acc ++ [y]))) := by
  have hb : big = 1000000 := rfl
  have hz : acc.length < big := by omega
  simp [mAppend, ho, isM, hS, he, hz, Res.bind]
theorem get_lt {α : Type} {S : List α} {m : Nat} {x : α} (h : S[m]? = some x) : m < S.length := (List.getElem?_eq_some_iff.mp h).1
theorem in4 (S : Sto) : ∀ k : Str, (k = "block" ∨ k = "sum" ∨ k = "product" ∨ k = "let") → dIn false (.str k) (.tup [.str "block", .str "sum", .str "product", .str "let"]) S = .ok (.bl true) S := by
  intro k h
  rcases h with rfl | rfl | rfl | rfl
  · have : inV (V.str "block") [V.str "block", V.str "sum", V.str "product", V.str "let"] = true := by decide +kernel
    simp [dIn, toFl, dSq, toFls, this]
  · have : inV (V.str "sum") [V.str "block", V.str "sum", V.str "product", V.str "let"] = true := by decide +kernel
    simp [dIn, toFl, dSq, toFls, this]
  · have : inV (V.str "product") [V.str "block", V.str "sum", V.str "product", V.str "let"] = true := by decide +kernel
    simp [dIn, toFl, dSq, toFls, this]
  · have : inV (V.str "let") [V.str "block", V.str "sum", V.str "product", V.str "let"] = true := by decide +kernel
    simp [dIn, toFl, dSq, toFls, this]
theorem nin4 (S : Sto) : ∀ k : Str, (k = "number" ∨ k = "lost" ∨ k = "use") → dIn false (.str k) (.tup [.str "block", .str "sum", .str "product", .str "let"]) S = .ok (.bl false) S := by
  intro k h
  rcases h with rfl | rfl | rfl
  · have : inV (V.str "number") [V.str "block", V.str "sum", V.str "product", V.str "let"] = false := by decide +kernel
    simp [dIn, toFl, dSq, toFls, this]
  · have : inV (V.str "lost") [V.str "block", V.str "sum", V.str "product", V.str "let"] = false := by decide +kernel
    simp [dIn, toFl, dSq, toFls, this]
  · have : inV (V.str "use") [V.str "block", V.str "sum", V.str "product", V.str "let"] = false := by decide +kernel
    simp [dIn, toFl, dSq, toFls, this]
/-- the invariant's slots -/
abbrev spG (items : D) (p : List Nat) (f : Nat) (m : Nat) (x4 x5 x6 x7 x8 : Option D) : En := [some items, some (pathD p), some (.int f), some (.ref m), x4, x5, x6, x7, x8]
/-- the parts of the turn that all items have -/
theorem sp_leaf (A : Ads) (rec : Fn) {xs : List It} {k d : Nat} (hk : k < xs.length) (g : Good d xs[k]) (hd : d ≤ 4) {p : List Nat} (hp : p.length ≤ 100) {f m : Nat} {S : Sto} {acc : List D} (hS : S[m]? = some (.lst acc)) (hl : acc.length ≤ 100000) (x5 x6 x7 x8 : Option D)
    (hx : ∃ key r, itD xs[k] = .tup (.str key :: r) ∧ (key = "number" ∨ key = "lost" ∨ key = "use")) :
    ∃ y5 y6 y7 y8, B__law_spans_1 A rec (spG (.tup (itDs xs)) p f m (some (.int k)) x5 x6 x7 x8) S = .nx (spG (.tup (itDs xs)) p (f + (wl xs[k]).length + 1) m (some (.int k)) y5 y6 y7 y8) (S.set m (.lst (acc ++ [rowD (p ++ [k], f, f + (wl xs[k]).length)]))) := by
  obtain ⟨key, r, e, hkey⟩ := hx
  have ew := word_ev A S 12 d xs[k] g hd (by omega)
  have hwl := wl_len g
  have hW := W_le (d := d) (by omega)
  have el := len_str (wl xs[k]) S (by omega)
  have ei := itDs_ix hk S
  have ep := path_add (f := true) p k S hp
  have hb : big = 1000000 := rfl
  have h1 : 1 ≤ big := by omega
  have h4 : 4 ≤ big := by omega
  have ea : ∀ Γ : En, Γ[3]? = some (some (.ref m)) → Γ[6]? = some (some (pathD (p ++ [k]))) → Γ[2]? = some (some (.int f)) → Γ[7]? = some (some (.int (f + (wl xs[k]).length))) → mAppend (mVar 3) (mTup (aCons (mVar 6) (aCons (mVar 2) (aCons (mVar 7) aNil)))) Γ S = .ok .non (S.set m (.lst (acc ++ [rowD (p ++ [k], f, f + (wl xs[k]).length)]))) := fun Γ g3 g6 g2 g7 => by
    refine append_ev (mVar_ev g3) ?_ hS hl
    simp [mTup, aCons, aNil, mVar_ev g6, mVar_ev g2, mVar_ev g7, Res.bind, rowD, hb]
  refine ⟨some (itD xs[k]), some (pathD (p ++ [k])), some (.int (f + (wl xs[k]).length)), x8, ?_⟩
  have en := nin4 (S.set m (.lst (acc ++ [rowD (p ++ [k], f, f + (wl xs[k]).length)]))) key hkey
  have e0 := ix_0 (.str key) r (S.set m (.lst (acc ++ [rowD (p ++ [k], f, f + (wl xs[k]).length)])))
  rw [← e] at e0
  generalize hS2 : S.set m (.lst (acc ++ [rowD (p ++ [k], f, f + (wl xs[k]).length)])) = S2 at *
  simp [B__law_spans_1, sSeq, sPar, sAsg, gN, sDrop, sIf, sPass, mOp, mVar, aCons, aNil, mTup, ei, h1, h4, ep, mCall, arg, ew, mBlt, el, add_ii, ea, e0, mT, en, Res.bind, Res.toS]

theorem ne_bs : ¬ (("block" : Str) = "sum") := by decide +kernel
theorem ne_bp : ¬ (("block" : Str) = "product") := by decide +kernel
theorem ne_sb : ¬ (("sum" : Str) = "block") := by decide +kernel
theorem ne_pb : ¬ (("product" : Str) = "block") := by decide +kernel
theorem ne_lb : ¬ (("block" : Str) = "let") := by decide +kernel
/-- {'block': 1, 'sum': 3, 'product': 3}.get(item[0], 0) -/
abbrev ofE : Ed := mDget2 (mDct [Sum.inr ("block" : Str), Sum.inr ("sum" : Str), Sum.inr ("product" : Str)] (aCons (mC (.int 1)) (aCons (mC (.int 3)) (aCons (mC (.int 3)) aNil)))) (mOp dIx (mVar 5) (mC (.int 0))) (mC (.int 0))
theorem of_ev {Γ : En} {S : Sto} {x : D} {key : Str} (h5 : Γ[5]? = some (some x)) (e0 : dIx x (.int 0) S = .ok (.str key) S) {o : Int} (ho : (key = "block" ∧ o = 1) ∨ (key = "sum" ∧ o = 3) ∨ (key = "product" ∧ o = 3) ∨ (key = "let" ∧ o = 0)) : ofE Γ S = .ok (.int o) S := by
  rcases ho with ⟨rfl, rfl⟩ | ⟨rfl, rfl⟩ | ⟨rfl, rfl⟩ | ⟨rfl, rfl⟩ <;>
    simp [ofE, mDget2, mDct, aCons, aNil, isDct, mOp, mVar_ev h5, e0, dDg, keyOf, lookK, ne_bs, ne_bp, ne_sb, ne_pb, ne_sp, ne_ps, ne_sl, ne_pl, ne_lb, Res.bind]
theorem nel (key : Str) (S : Sto) (b : Bool) (h : (key = "block" ∧ b = true) ∨ (key = "sum" ∧ b = true) ∨ (key = "product" ∧ b = true) ∨ (key = "let" ∧ b = false)) : dEqG true (.str key) (.str "let") S = .ok (.bl b) S := by
  rcases h with ⟨rfl, rfl⟩ | ⟨rfl, rfl⟩ | ⟨rfl, rfl⟩ | ⟨rfl, rfl⟩
  · rw [dNe_str ok_block ok_let, eq_block_let]; rfl
  · rw [dNe_str ok_sum ok_let, eq_sum_let]; rfl
  · rw [dNe_str ok_product ok_let, eq_product_let]; rfl
  · rw [dNe_str ok_let ok_let, eq_let_let]; rfl
/-- two lists that may change, one behind the other -/
theorem add_rr {S : Sto} {m n : Nat} {a b : List D} (h1 : S[m]? = some (.lst a)) (h2 : S[n]? = some (.lst b)) (hl : a.length + b.length ≤ 100000) : dAdd false (.ref m) (.ref n) S = .ok (.ref S.length) (S ++ [.lst (a ++ b)]) := by
  have hb : big = 1000000 := rfl
  have hz : a.length + b.length ≤ big := by omega
  simp [dAdd, dLs, h1, h2, hz, mkL]
theorem sp_grp (A : Ads) (rec : Fn) {xs : List It} {k d : Nat} (hk : k < xs.length) (g : Good (d + 1) xs[k]) (hd : d + 1 ≤ 4) {p : List Nat} (hp : p.length ≤ 100) {f m : Nat} {S : Sto} {acc : List D} (hS : S[m]? = some (.lst acc)) (hl : acc.length ≤ 10000) (x5 x6 x7 x8 : Option D)
    {key : Str} {ys : List It} {o : Nat} {b : Bool} (o0 : Int) (e1 : ∃ r, itD xs[k] = .tup (.str key :: r)) (em : ∀ S, dIx (itD xs[k]) (.int (-1)) S = .ok (.tup (itDs ys)) S) (hkey : key = "block" ∨ key = "sum" ∨ key = "product" ∨ key = "let")
    (hof : (key = "block" ∧ o0 = 1) ∨ (key = "sum" ∧ o0 = 3) ∨ (key = "product" ∧ o0 = 3) ∨ (key = "let" ∧ o0 = 0)) (hnl : (key = "block" ∧ b = true) ∨ (key = "sum" ∧ b = true) ∨ (key = "product" ∧ b = true) ∨ (key = "let" ∧ b = false))
    (ho : ∀ Γ S, Γ[5]? = some (some (itD xs[k])) → Γ[8]? = some (some (.int o0)) → (mIf (mT (mOp dNe (mOp dIx (mVar 5) (mC (.int 0))) (mC (.str ("let" : Str))))) (mVar 8) (mOp (dAdd true) (mBlt fLen (aCons (mOp dIx (mVar 5) (mC (.int 1))) aNil)) (mC (.int 4)))) Γ S = .ok (.int o) S)
    (hrec : ∀ S1, ∃ n S2, rec [.tup (itDs ys), pathD (p ++ [k]), .int (f + o : Nat)] S1 = .ok (.ref n) S2 ∧ S1 <+: S2 ∧ S1.length ≤ n ∧ S2[n]? = some (.lst (rowsD (spns ys (p ++ [k]) 0 (f + o))))) (hin : (spns ys (p ++ [k]) 0 (f + o)).length ≤ 10000) :
    ∃ m' S' y5 y6 y7 y8, B__law_spans_1 A rec (spG (.tup (itDs xs)) p f m (some (.int k)) x5 x6 x7 x8) S = .nx (spG (.tup (itDs xs)) p (f + (wl xs[k]).length + 1) m' (some (.int k)) y5 y6 y7 y8) S' ∧
      S'[m']? = some (.lst (acc ++ (rowD (p ++ [k], f, f + (wl xs[k]).length) :: rowsD (spns ys (p ++ [k]) 0 (f + o))))) ∧ S.length ≤ m' ∧ ∃ S1, S1 = S.set m (.lst (acc ++ [rowD (p ++ [k], f, f + (wl xs[k]).length)])) ∧ S1 <+: S' := by
  obtain ⟨r, e⟩ := e1
  have ew := word_ev A S 12 (d + 1) xs[k] g hd (by omega)
  have hwl := wl_len g
  have hW := W_le (d := d + 1) (by omega)
  have el := len_str (wl xs[k]) S (by omega)
  have ei := itDs_ix hk S
  have ep := path_add (f := true) p k S hp
  have hb : big = 1000000 := rfl
  have h1 : 1 ≤ big := by omega
  have h4 : 4 ≤ big := by omega
  have hm := get_lt hS
  have ea : ∀ Γ : En, Γ[3]? = some (some (.ref m)) → Γ[6]? = some (some (pathD (p ++ [k]))) → Γ[2]? = some (some (.int f)) → Γ[7]? = some (some (.int (f + (wl xs[k]).length))) → mAppend (mVar 3) (mTup (aCons (mVar 6) (aCons (mVar 2) (aCons (mVar 7) aNil)))) Γ S = .ok .non (S.set m (.lst (acc ++ [rowD (p ++ [k], f, f + (wl xs[k]).length)]))) := fun Γ g3 g6 g2 g7 => by
    refine append_ev (mVar_ev g3) ?_ hS (by omega)
    simp [mTup, aCons, aNil, mVar_ev g6, mVar_ev g2, mVar_ev g7, Res.bind, rowD, hb]
  have hS1 : (S.set m (.lst (acc ++ [rowD (p ++ [k], f, f + (wl xs[k]).length)])))[m]? = some (.lst (acc ++ [rowD (p ++ [k], f, f + (wl xs[k]).length)])) := List.getElem?_set_self hm
  have hlen : (S.set m (.lst (acc ++ [rowD (p ++ [k], f, f + (wl xs[k]).length)]))).length = S.length := List.length_set ..
  have en := in4 (S.set m (.lst (acc ++ [rowD (p ++ [k], f, f + (wl xs[k]).length)]))) key hkey
  have e0 := ix_0 (.str key) r (S.set m (.lst (acc ++ [rowD (p ++ [k], f, f + (wl xs[k]).length)])))
  rw [← e] at e0
  generalize hS2 : S.set m (.lst (acc ++ [rowD (p ++ [k], f, f + (wl xs[k]).length)])) = S1 at *
  obtain ⟨n, S2, er, pr, hn, hS2n⟩ := hrec S1
  have hS2m := pre_get pr hS1
  have hadd := add_rr hS2m hS2n (by simp [rowsD]; omega)
  refine ⟨S2.length, S2 ++ [.lst (acc ++ [rowD (p ++ [k], f, f + (wl xs[k]).length)] ++ rowsD (spns ys (p ++ [k]) 0 (f + o)))], some (itD xs[k]), some (pathD (p ++ [k])), some (.int (f + (wl xs[k]).length)), some (.int o), ?_, ?_, ?_, S1, rfl, ?_⟩
  · have eo := fun Γ h => of_ev (Γ := Γ) (S := S1) (o := o0) h e0 hof
    have er' : rec [.tup (itDs ys), pathD (p ++ [k]), .int ((f : Int) + o)] S1 = .ok (.ref n) S2 := er
    have em1 := em S1
    simp [B__law_spans_1, sSeq, sPar, sAsg, gN, sDrop, sIf, sPass, mOp, mVar, aCons, aNil, mTup, ei, h1, h4, ep, mCall, arg, ew, mBlt, el, add_ii, ea, e0, mT, en, Res.bind, Res.toS]
    have eo1 := eo [some (.tup (itDs xs)), some (pathD p), some (.int f), some (.ref m), some (.int k), some (itD xs[k]), some (pathD (p ++ [k])), some (.int (f + (wl xs[k]).length)), x8] rfl
    have ho1 := ho [some (.tup (itDs xs)), some (pathD p), some (.int f), some (.ref m), some (.int k), some (itD xs[k]), some (pathD (p ++ [k])), some (.int (f + (wl xs[k]).length)), some (.int o0)] S1 rfl rfl
    simp only [ofE] at eo1
    rw [eo1]
    simp only [ho1]
    simp [em1, er', hadd, mUn, dNeg, add_ii, Res.bind]
  · rw [List.getElem?_append_right (Nat.le_refl _), Nat.sub_self]
    simp
  · have := pr.length_le
    omega
  · exact pr.trans (List.prefix_append _ _)
end K68
end

section
set_option Elab.async false
set_option linter.all false
set_option maxRecDepth 100000
set_option maxHeartbeats 4000000
namespace K68
open PySem PySem.Spec PyProof.Rows L2 Fx TL
theorem len_m1 {x y : D} (S : Sto) : dIx (.tup [x, y]) (.int (-1)) S = .ok y S := rfl
theorem iRg_ok {ma : Ed} {Γ : En} {S S1 : Sto} {i : Int} (h : ma Γ S = .ok (.int i) S1) (hb : InB i) : iRg rng1 (aCons ma aNil) Γ S = .ok (.rng 0 i.toNat) S1 := by
  simp [iRg, aCons, aNil, h, rng1, hb, Res.bind]
theorem iRg_nat {ma : Ed} {Γ : En} {S S1 : Sto} {n : Nat} (h : ma Γ S = .ok (.int (n : Int)) S1) (hb : InB n) : iRg rng1 (aCons ma aNil) Γ S = .ok (.rng 0 n) S1 := by
  have := iRg_ok h hb
  rw [Int.toNat_natCast] at this
  exact this
theorem sFor_nx {src : Id'} {tg : Td} {b : Sd} {Γ Γ' : En} {S S1 S' : Sto} {s : Sr} (h1 : src Γ S = .ok s S1) (h2 : lpF s tg b (lenS s S1) 0 Γ S1 = .nx Γ' S') : sFor src tg b Γ S = .nx Γ' S' := by
  simp [sFor, h1, h2, Res.toS]
theorem sSeq_nx {a b : Sd} {Γ Γ1 : En} {S S1 : Sto} (h1 : a Γ S = .nx Γ1 S1) : sSeq a b Γ S = b Γ1 S1 := by
  simp [sSeq, h1]
theorem runF_rt {b : Sd} {N : Nat} {ds : List D} {S S' : Sto} {d : D} (h : b (enter N ds) S = .rt d S') : runF N b ds S = .ok d S' := by
  simp [runF, h]
theorem turn_ev (A : Ads) {rec : Fn} {xs : List It} {k d : Nat} (hk : k < xs.length) (g : Good d xs[k]) (hd : d ≤ 4) {p : List Nat} (hp : p.length ≤ 100) {f m : Nat} {S : Sto} {acc : List Row} (hS : S[m]? = some (.lst (rowsD acc))) (hl : acc.length ≤ 10000) (x5 x6 x7 x8 : Option D)
    (hrec : ∀ d' ys f' S1, d = d' + 1 → Goods d' ys → ys.length ≤ 3 → ∃ n S2, rec [.tup (itDs ys), pathD (p ++ [k]), .int (f' : Nat)] S1 = .ok (.ref n) S2 ∧ S1 <+: S2 ∧ S1.length ≤ n ∧ S2[n]? = some (.lst (rowsD (spns ys (p ++ [k]) 0 f')))) {S0 : Sto} (h0 : S0 <+: S) (hm : S0.length ≤ m) :
    ∃ m' S' y5 y6 y7 y8, B__law_spans_1 A rec (spG (.tup (itDs xs)) p f m (some (.int k)) x5 x6 x7 x8) S = .nx (spG (.tup (itDs xs)) p (f + (wl xs[k]).length + 1) m' (some (.int k)) y5 y6 y7 y8) S' ∧
      S'[m']? = some (.lst (rowsD (acc ++ spn xs[k] (p ++ [k]) f))) ∧ S0 <+: S' ∧ S0.length ≤ m' := by
  have hlr : (rowsD acc).length ≤ 10000 := by simpa [rowsD] using hl
  have hmS := get_lt hS
  have h0l := h0.length_le
  have leaf : (∃ key r, itD xs[k] = .tup (.str key :: r) ∧ (key = "number" ∨ key = "lost" ∨ key = "use")) → spn xs[k] (p ++ [k]) f = [(p ++ [k], f, f + (wl xs[k]).length)] → ∃ m' S' y5 y6 y7 y8, B__law_spans_1 A rec (spG (.tup (itDs xs)) p f m (some (.int k)) x5 x6 x7 x8) S = .nx (spG (.tup (itDs xs)) p (f + (wl xs[k]).length + 1) m' (some (.int k)) y5 y6 y7 y8) S' ∧
      S'[m']? = some (.lst (rowsD (acc ++ spn xs[k] (p ++ [k]) f))) ∧ S0 <+: S' ∧ S0.length ≤ m' := fun hx hs => by
    obtain ⟨y5, y6, y7, y8, e⟩ := sp_leaf A rec hk g hd hp hS (by omega) x5 x6 x7 x8 hx
    refine ⟨m, _, y5, y6, y7, y8, e, ?_, pre_set _ h0 hm, hm⟩
    rw [List.getElem?_set_self hmS, hs]
    simp [rowsD]
  cases hit : xs[k] with
  | num i => exact hit ▸ leaf ⟨"number", _, by rw [hit, itD], .inl rfl⟩ (by rw [hit, spn])
  | lost => exact hit ▸ leaf ⟨"lost", _, by rw [hit, itD], .inr (.inl rfl)⟩ (by rw [hit, spn])
  | use s => exact hit ▸ leaf ⟨"use", _, by rw [hit, itD], .inr (.inr rfl)⟩ (by rw [hit, spn])
  | grp j ys =>
    cases d with
    | zero => rw [hit] at g; exact g.elim
    | succ d =>
      have g' := g
      rw [hit] at g'
      obtain ⟨hj, hl3, gs⟩ := g'
      have hn := spns_len (p ++ [k]) 0 (f + off j) gs
      have hN := N_le (d := d) (by omega)
      have hm3 : ys.length * Nn d ≤ 3 * Nn d := Nat.mul_le_mul_right _ hl3
      obtain ⟨m', S', y5, y6, y7, y8, e, e2, e3, S1, e4, e5⟩ := sp_grp A rec hk g hd hp hS hlr x5 x6 x7 x8 (key := kindS j) (ys := ys) (o := off j) (b := true) (off j : Int) ⟨_, by rw [hit, itD]⟩ (fun S => by rw [hit, itD]; rfl)
        (by match j, hj with | 0, _ => exact .inl rfl | 1, _ => exact .inr (.inl rfl) | 2, _ => exact .inr (.inr (.inl rfl)))
        (by match j, hj with | 0, _ => exact .inl ⟨rfl, rfl⟩ | 1, _ => exact .inr (.inl ⟨rfl, rfl⟩) | 2, _ => exact .inr (.inr (.inl ⟨rfl, rfl⟩)))
        (by match j, hj with | 0, _ => exact .inl ⟨rfl, rfl⟩ | 1, _ => exact .inr (.inl ⟨rfl, rfl⟩) | 2, _ => exact .inr (.inr (.inl ⟨rfl, rfl⟩)))
        (fun Γ S h5 h8 => by
          have e0 := ix_0 (.str (kindS j)) [.tup (itDs ys)] S
          have en := nel (kindS j) S true (by match j, hj with | 0, _ => exact .inl ⟨rfl, rfl⟩ | 1, _ => exact .inr (.inl ⟨rfl, rfl⟩) | 2, _ => exact .inr (.inr (.inl ⟨rfl, rfl⟩)))
          rw [hit, itD] at h5
          simp [mIf, mT, mOp, mVar_ev h5, mVar_ev h8, e0, en, Res.bind])
        (fun S1 => hrec d ys (f + off j) S1 rfl gs hl3) (by omega)
      refine ⟨m', S', y5, y6, y7, y8, by rw [← hit]; exact e, ?_, ?_, by omega⟩
      · rw [e2, hit, spn]
        simp [rowsD]
      · exact (e4 ▸ pre_set _ h0 hm : S0 <+: S1).trans e5
  | lt s ys =>
    cases d with
    | zero => rw [hit] at g; exact g.elim
    | succ d =>
      have g' := g
      rw [hit] at g'
      obtain ⟨hs, hl3, gs⟩ := g'
      have hn := spns_len (p ++ [k]) 0 (f + ((tl s).length + 4)) gs
      have hN := N_le (d := d) (by omega)
      have hm3 : ys.length * Nn d ≤ 3 * Nn d := Nat.mul_le_mul_right _ hl3
      have hsl := names_len hs
      obtain ⟨m', S', y5, y6, y7, y8, e, e2, e3, S1, e4, e5⟩ := sp_grp A rec hk g hd hp hS hlr x5 x6 x7 x8 (key := "let") (ys := ys) (o := (tl s).length + 4) (b := false) 0 ⟨_, by rw [hit, itD]⟩ (fun S => by rw [hit, itD]; rfl)
        (.inr (.inr (.inr rfl))) (.inr (.inr (.inr ⟨rfl, rfl⟩))) (.inr (.inr (.inr ⟨rfl, rfl⟩)))
        (fun Γ S h5 h8 => by
          have e0 := ix_0 (.str "let") [.str s, .tup (itDs ys)] S
          have e1 := ix_1 (.str "let") (.str s) [.tup (itDs ys)] S
          have en := nel "let" S false (.inr (.inr (.inr ⟨rfl, rfl⟩)))
          have el := len_str (tl s) S (by omega)
          have es : Sr' (tl s) = s := mk_tl s
          rw [es] at el
          rw [hit, itD] at h5
          simp [mIf, mT, mOp, mVar_ev h5, mVar_ev h8, e0, e1, en, mBlt, aCons, aNil, el, add_ii, Res.bind])
        (fun S1 => hrec d ys (f + ((tl s).length + 4)) S1 rfl gs hl3) (by omega)
      refine ⟨m', S', y5, y6, y7, y8, by rw [← hit]; exact e, ?_, ?_, by omega⟩
      · rw [e2, hit, spn]
        simp [rowsD]
      · exact (e4 ▸ pre_set _ h0 hm : S0 <+: S1).trans e5
def SpOk (A : Ads) (fuel : Nat) : Prop := ∀ (d : Nat) (xs : List It) (p : List Nat) (f : Nat) (S : Sto), Goods d xs → xs.length ≤ 4 → d ≤ 3 → d < fuel → p.length + d ≤ 50 →
    ∃ m S', m__law_spans A fuel [.tup (itDs xs), pathD p, .int (f : Nat)] S = .ok (.ref m) S' ∧ S <+: S' ∧ S.length ≤ m ∧ S'[m]? = some (.lst (rowsD (spns xs p 0 f)))
theorem spans_step (A : Ads) {fuel : Nat} (ih : SpOk A fuel) : SpOk A (fuel + 1) := by
    intro d xs p f S g hl hd hf hp
    let I : Nat → En → Sto → Prop := fun i Γ S' => ∃ m fi x4 x5 x6 x7 x8 acc, Γ = spG (.tup (itDs xs)) p fi m x4 x5 x6 x7 x8 ∧ S <+: S' ∧ S.length ≤ m ∧ S'[m]? = some (.lst (rowsD acc)) ∧ spns xs p 0 f = acc ++ spns (xs.drop i) p i fi
    have hn := spns_len p 0 f g
    have hN := N_le (d := d) (by omega)
    have hm4 : xs.length * Nn d ≤ 4 * Nn d := Nat.mul_le_mul_right _ hl
    obtain ⟨Γ', S', e, m, fi, x4, x5, x6, x7, x8, acc, rfl, h1, h2, h3, h4⟩ := lpF_all (s := .rng 0 xs.length) (tg := gN 4) (b := B__law_spans_1 A (m__law_spans A fuel)) (I := I) (rgD xs.length) (fun i Γ S1 _ => rg_it _ i S1)
      (fun i hi Γ S1 hI => by
        obtain ⟨m, fi, x4, x5, x6, x7, x8, acc, rfl, h1, h2, h3, h4⟩ := hI
        have hi' : i < xs.length := by simpa [rgD] using hi
        have hacc : acc.length ≤ 10000 := by
          have := congrArg List.length h4
          rw [List.length_append] at this
          omega
        have gi := goods_mem g _ (List.getElem_mem hi')
        obtain ⟨m', S2, y5, y6, y7, y8, e, e2, e3, e4⟩ := turn_ev A hi' gi (by omega) (by omega : p.length ≤ 100) (f := fi) h3 hacc x5 x6 x7 x8 (fun d' ys f' S1 hdd gy hly => ih d' ys (p ++ [i]) f' S1 gy (by omega) (by omega) (by omega) (by simp; omega)) h1 h2
        have hx : (rgD xs.length)[i] = .int (i : Nat) := by simp [rgD]
        refine ⟨spG (.tup (itDs xs)) p fi m (some (.int (i : Nat))) x5 x6 x7 x8, by rw [hx]; rfl, _, _, e, m', _, _, _, _, _, _, _, rfl, e3, e4, e2, ?_⟩
        rw [h4, List.drop_eq_getElem_cons hi', spns, List.append_assoc])
      (xs.length + 1) 0 (spG (.tup (itDs xs)) p f S.length none none none none none) (S ++ [.lst []]) ⟨S.length, f, none, none, none, none, none, [], rfl, List.prefix_append _ _, Nat.le_refl _, by rw [List.getElem?_append_right (Nat.le_refl _), Nat.sub_self]; rfl, rfl⟩ (Nat.zero_le _) (by simp [rgD])
    have hr : (rgD xs.length).length = xs.length := by simp [rgD]
    rw [hr, List.drop_eq_nil_of_le (Nat.le_refl _), spns, List.append_nil] at h4
    refine ⟨m, S', ?_, h1, h2, h4 ▸ h3⟩
    have hb : InB (xs.length : Int) := by unfold InB; omega
    have el : fLen [.tup (itDs xs)] (S ++ [.lst []]) = .ok (.int xs.length) (S ++ [.lst []]) := by simp [fLen, dSq, itDs_len]
    refine runF_rt (b := b__law_spans A (m__law_spans A fuel)) (N := 9) ?_
    have ej : sAsg (gN 3) (mLst false aNil) (enter 9 [.tup (itDs xs), pathD p, .int (f : Nat)]) S = .nx (spG (.tup (itDs xs)) p f S.length none none none none none) (S ++ [.lst []]) := by
      simp [sAsg, mLst, aNil, mkL, gN, enter, Res.bind, Res.toS]
    unfold b__law_spans
    refine (sSeq_nx ej).trans ?_
    have e0 : mBlt fLen (aCons (mVar 0) aNil) (spG (.tup (itDs xs)) p f S.length none none none none none) (S ++ [.lst []]) = .ok (.int xs.length) (S ++ [.lst []]) := by
      have hv : mVar 0 (spG (.tup (itDs xs)) p f S.length none none none none none) (S ++ [.lst []]) = .ok (.tup (itDs xs)) (S ++ [.lst []]) := mVar_ev rfl
      simp only [mBlt, aCons, aNil, hv, Res.bind_ok, el]
    have ei := iRg_nat e0 hb
    have hl' : lenS (.rng 0 xs.length) (S ++ [.lst []]) = xs.length + 1 := rfl
    rw [← hl'] at e
    have ef := sFor_nx ei e
    refine (sSeq_nx ef).trans ?_
    rfl
theorem spans_ev (A : Ads) : ∀ fuel : Nat, SpOk A fuel
  | 0 => fun d xs p f S g hl hd hf hp => absurd hf (by omega)
  | fuel + 1 => spans_step A (spans_ev A fuel)
end K68
end

section
set_option Elab.async false
set_option linter.all false
set_option maxRecDepth 100000
set_option maxHeartbeats 4000000
namespace K68
open PySem PySem.Spec PyProof.Rows L2 Fx TL
/-! ## the objects of the parser -/
abbrev twF (L : List Nat) (p : Int) (r q : Nat) : List (Str × D) := [("own_text", .str (Sr' L)), ("own_at", .int p), ("own_rows", .ref r), ("own_pile", .ref q)]
abbrev irF (path : List Nat) (f b : Int) (k : Str) (v : D) : List (Str × D) := [("own_path", pathD path), ("own_first", .int f), ("own_behind", .int b), ("own_kind", .str k), ("own_value", v)]
abbrev oiF (path : List Nat) (row : D) (many : Int) : List (Str × D) := [("own_path", pathD path), ("own_row", row), ("own_many", .int many)]
theorem beq_rfl (a : Str) : (a == a) = true := by simp
theorem kb_begin_first_own_at : (("begin_first" : Str) == ("own_at" : Str)) = false := by decide +kernel
theorem kb_begin_first_own_pile : (("begin_first" : Str) == ("own_pile" : Str)) = false := by decide +kernel
theorem kb_begin_first_own_rows : (("begin_first" : Str) == ("own_rows" : Str)) = false := by decide +kernel
theorem kb_begin_first_own_text : (("begin_first" : Str) == ("own_text" : Str)) = false := by decide +kernel
theorem kb_begin_item_own_at : (("begin_item" : Str) == ("own_at" : Str)) = false := by decide +kernel
theorem kb_begin_item_own_pile : (("begin_item" : Str) == ("own_pile" : Str)) = false := by decide +kernel
theorem kb_begin_item_own_rows : (("begin_item" : Str) == ("own_rows" : Str)) = false := by decide +kernel
theorem kb_begin_item_own_text : (("begin_item" : Str) == ("own_text" : Str)) = false := by decide +kernel
theorem kb_close_item_own_at : (("close_item" : Str) == ("own_at" : Str)) = false := by decide +kernel
theorem kb_close_item_own_pile : (("close_item" : Str) == ("own_pile" : Str)) = false := by decide +kernel
theorem kb_close_item_own_rows : (("close_item" : Str) == ("own_rows" : Str)) = false := by decide +kernel
theorem kb_close_item_own_text : (("close_item" : Str) == ("own_text" : Str)) = false := by decide +kernel
theorem kb_go_on_own_at : (("go_on" : Str) == ("own_at" : Str)) = false := by decide +kernel
theorem kb_go_on_own_pile : (("go_on" : Str) == ("own_pile" : Str)) = false := by decide +kernel
theorem kb_go_on_own_rows : (("go_on" : Str) == ("own_rows" : Str)) = false := by decide +kernel
theorem kb_go_on_own_text : (("go_on" : Str) == ("own_text" : Str)) = false := by decide +kernel
theorem kb_go_over_name_own_at : (("go_over_name" : Str) == ("own_at" : Str)) = false := by decide +kernel
theorem kb_go_over_name_own_pile : (("go_over_name" : Str) == ("own_pile" : Str)) = false := by decide +kernel
theorem kb_go_over_name_own_rows : (("go_over_name" : Str) == ("own_rows" : Str)) = false := by decide +kernel
theorem kb_go_over_name_own_text : (("go_over_name" : Str) == ("own_text" : Str)) = false := by decide +kernel
theorem kb_go_over_number_own_at : (("go_over_number" : Str) == ("own_at" : Str)) = false := by decide +kernel
theorem kb_go_over_number_own_pile : (("go_over_number" : Str) == ("own_pile" : Str)) = false := by decide +kernel
theorem kb_go_over_number_own_rows : (("go_over_number" : Str) == ("own_rows" : Str)) = false := by decide +kernel
theorem kb_go_over_number_own_text : (("go_over_number" : Str) == ("own_text" : Str)) = false := by decide +kernel
theorem kb_new_row_own_at : (("new_row" : Str) == ("own_at" : Str)) = false := by decide +kernel
theorem kb_new_row_own_pile : (("new_row" : Str) == ("own_pile" : Str)) = false := by decide +kernel
theorem kb_new_row_own_rows : (("new_row" : Str) == ("own_rows" : Str)) = false := by decide +kernel
theorem kb_new_row_own_text : (("new_row" : Str) == ("own_text" : Str)) = false := by decide +kernel
theorem kb_next_in_own_at : (("next_in" : Str) == ("own_at" : Str)) = false := by decide +kernel
theorem kb_next_in_own_pile : (("next_in" : Str) == ("own_pile" : Str)) = false := by decide +kernel
theorem kb_next_in_own_rows : (("next_in" : Str) == ("own_rows" : Str)) = false := by decide +kernel
theorem kb_next_in_own_text : (("next_in" : Str) == ("own_text" : Str)) = false := by decide +kernel
theorem kb_own_at_own_pile : (("own_at" : Str) == ("own_pile" : Str)) = false := by decide +kernel
theorem kn_own_at_own_pile : ¬ (("own_at" : Str) = ("own_pile" : Str)) := by decide +kernel
theorem kb_own_at_own_rows : (("own_at" : Str) == ("own_rows" : Str)) = false := by decide +kernel
theorem kn_own_at_own_rows : ¬ (("own_at" : Str) = ("own_rows" : Str)) := by decide +kernel
theorem kb_own_at_own_text : (("own_at" : Str) == ("own_text" : Str)) = false := by decide +kernel
theorem kn_own_at_own_text : ¬ (("own_at" : Str) = ("own_text" : Str)) := by decide +kernel
theorem kb_own_behind_own_first : (("own_behind" : Str) == ("own_first" : Str)) = false := by decide +kernel
theorem kn_own_behind_own_first : ¬ (("own_behind" : Str) = ("own_first" : Str)) := by decide +kernel
theorem kb_own_behind_own_kind : (("own_behind" : Str) == ("own_kind" : Str)) = false := by decide +kernel
theorem kn_own_behind_own_kind : ¬ (("own_behind" : Str) = ("own_kind" : Str)) := by decide +kernel
theorem kb_own_behind_own_path : (("own_behind" : Str) == ("own_path" : Str)) = false := by decide +kernel
theorem kn_own_behind_own_path : ¬ (("own_behind" : Str) = ("own_path" : Str)) := by decide +kernel
theorem kb_own_behind_own_value : (("own_behind" : Str) == ("own_value" : Str)) = false := by decide +kernel
theorem kn_own_behind_own_value : ¬ (("own_behind" : Str) = ("own_value" : Str)) := by decide +kernel
theorem kb_own_first_own_behind : (("own_first" : Str) == ("own_behind" : Str)) = false := by decide +kernel
theorem kn_own_first_own_behind : ¬ (("own_first" : Str) = ("own_behind" : Str)) := by decide +kernel
theorem kb_own_first_own_kind : (("own_first" : Str) == ("own_kind" : Str)) = false := by decide +kernel
theorem kn_own_first_own_kind : ¬ (("own_first" : Str) = ("own_kind" : Str)) := by decide +kernel
theorem kb_own_first_own_path : (("own_first" : Str) == ("own_path" : Str)) = false := by decide +kernel
theorem kn_own_first_own_path : ¬ (("own_first" : Str) = ("own_path" : Str)) := by decide +kernel
theorem kb_own_first_own_value : (("own_first" : Str) == ("own_value" : Str)) = false := by decide +kernel
theorem kn_own_first_own_value : ¬ (("own_first" : Str) = ("own_value" : Str)) := by decide +kernel
theorem kb_own_kind_own_behind : (("own_kind" : Str) == ("own_behind" : Str)) = false := by decide +kernel
theorem kn_own_kind_own_behind : ¬ (("own_kind" : Str) = ("own_behind" : Str)) := by decide +kernel
theorem kb_own_kind_own_first : (("own_kind" : Str) == ("own_first" : Str)) = false := by decide +kernel
theorem kn_own_kind_own_first : ¬ (("own_kind" : Str) = ("own_first" : Str)) := by decide +kernel
theorem kb_own_kind_own_path : (("own_kind" : Str) == ("own_path" : Str)) = false := by decide +kernel
theorem kn_own_kind_own_path : ¬ (("own_kind" : Str) = ("own_path" : Str)) := by decide +kernel
theorem kb_own_kind_own_value : (("own_kind" : Str) == ("own_value" : Str)) = false := by decide +kernel
theorem kn_own_kind_own_value : ¬ (("own_kind" : Str) = ("own_value" : Str)) := by decide +kernel
theorem kb_own_many_own_path : (("own_many" : Str) == ("own_path" : Str)) = false := by decide +kernel
theorem kn_own_many_own_path : ¬ (("own_many" : Str) = ("own_path" : Str)) := by decide +kernel
theorem kb_own_many_own_row : (("own_many" : Str) == ("own_row" : Str)) = false := by decide +kernel
theorem kn_own_many_own_row : ¬ (("own_many" : Str) = ("own_row" : Str)) := by decide +kernel
theorem kb_own_path_own_behind : (("own_path" : Str) == ("own_behind" : Str)) = false := by decide +kernel
theorem kn_own_path_own_behind : ¬ (("own_path" : Str) = ("own_behind" : Str)) := by decide +kernel
theorem kb_own_path_own_first : (("own_path" : Str) == ("own_first" : Str)) = false := by decide +kernel
theorem kn_own_path_own_first : ¬ (("own_path" : Str) = ("own_first" : Str)) := by decide +kernel
theorem kb_own_path_own_kind : (("own_path" : Str) == ("own_kind" : Str)) = false := by decide +kernel
theorem kn_own_path_own_kind : ¬ (("own_path" : Str) = ("own_kind" : Str)) := by decide +kernel
theorem kb_own_path_own_many : (("own_path" : Str) == ("own_many" : Str)) = false := by decide +kernel
theorem kn_own_path_own_many : ¬ (("own_path" : Str) = ("own_many" : Str)) := by decide +kernel
theorem kb_own_path_own_row : (("own_path" : Str) == ("own_row" : Str)) = false := by decide +kernel
theorem kn_own_path_own_row : ¬ (("own_path" : Str) = ("own_row" : Str)) := by decide +kernel
theorem kb_own_path_own_value : (("own_path" : Str) == ("own_value" : Str)) = false := by decide +kernel
theorem kn_own_path_own_value : ¬ (("own_path" : Str) = ("own_value" : Str)) := by decide +kernel
theorem kb_own_pile_own_at : (("own_pile" : Str) == ("own_at" : Str)) = false := by decide +kernel
theorem kn_own_pile_own_at : ¬ (("own_pile" : Str) = ("own_at" : Str)) := by decide +kernel
theorem kb_own_pile_own_rows : (("own_pile" : Str) == ("own_rows" : Str)) = false := by decide +kernel
theorem kn_own_pile_own_rows : ¬ (("own_pile" : Str) = ("own_rows" : Str)) := by decide +kernel
theorem kb_own_pile_own_text : (("own_pile" : Str) == ("own_text" : Str)) = false := by decide +kernel
theorem kn_own_pile_own_text : ¬ (("own_pile" : Str) = ("own_text" : Str)) := by decide +kernel
theorem kb_own_row_own_many : (("own_row" : Str) == ("own_many" : Str)) = false := by decide +kernel
theorem kn_own_row_own_many : ¬ (("own_row" : Str) = ("own_many" : Str)) := by decide +kernel
theorem kb_own_row_own_path : (("own_row" : Str) == ("own_path" : Str)) = false := by decide +kernel
theorem kn_own_row_own_path : ¬ (("own_row" : Str) = ("own_path" : Str)) := by decide +kernel
theorem kb_own_rows_own_at : (("own_rows" : Str) == ("own_at" : Str)) = false := by decide +kernel
theorem kn_own_rows_own_at : ¬ (("own_rows" : Str) = ("own_at" : Str)) := by decide +kernel
theorem kb_own_rows_own_pile : (("own_rows" : Str) == ("own_pile" : Str)) = false := by decide +kernel
theorem kn_own_rows_own_pile : ¬ (("own_rows" : Str) = ("own_pile" : Str)) := by decide +kernel
theorem kb_own_rows_own_text : (("own_rows" : Str) == ("own_text" : Str)) = false := by decide +kernel
theorem kn_own_rows_own_text : ¬ (("own_rows" : Str) = ("own_text" : Str)) := by decide +kernel
theorem kb_own_text_own_at : (("own_text" : Str) == ("own_at" : Str)) = false := by decide +kernel
theorem kn_own_text_own_at : ¬ (("own_text" : Str) = ("own_at" : Str)) := by decide +kernel
theorem kb_own_text_own_pile : (("own_text" : Str) == ("own_pile" : Str)) = false := by decide +kernel
theorem kn_own_text_own_pile : ¬ (("own_text" : Str) = ("own_pile" : Str)) := by decide +kernel
theorem kb_own_text_own_rows : (("own_text" : Str) == ("own_rows" : Str)) = false := by decide +kernel
theorem kn_own_text_own_rows : ¬ (("own_text" : Str) = ("own_rows" : Str)) := by decide +kernel
theorem kb_own_value_own_behind : (("own_value" : Str) == ("own_behind" : Str)) = false := by decide +kernel
theorem kn_own_value_own_behind : ¬ (("own_value" : Str) = ("own_behind" : Str)) := by decide +kernel
theorem kb_own_value_own_first : (("own_value" : Str) == ("own_first" : Str)) = false := by decide +kernel
theorem kn_own_value_own_first : ¬ (("own_value" : Str) = ("own_first" : Str)) := by decide +kernel
theorem kb_own_value_own_kind : (("own_value" : Str) == ("own_kind" : Str)) = false := by decide +kernel
theorem kn_own_value_own_kind : ¬ (("own_value" : Str) = ("own_kind" : Str)) := by decide +kernel
theorem kb_own_value_own_path : (("own_value" : Str) == ("own_path" : Str)) = false := by decide +kernel
theorem kn_own_value_own_path : ¬ (("own_value" : Str) = ("own_path" : Str)) := by decide +kernel
theorem kb_refuse_here_own_at : (("refuse_here" : Str) == ("own_at" : Str)) = false := by decide +kernel
theorem kb_refuse_here_own_pile : (("refuse_here" : Str) == ("own_pile" : Str)) = false := by decide +kernel
theorem kb_refuse_here_own_rows : (("refuse_here" : Str) == ("own_rows" : Str)) = false := by decide +kernel
theorem kb_refuse_here_own_text : (("refuse_here" : Str) == ("own_text" : Str)) = false := by decide +kernel
theorem kb_small_item_own_at : (("small_item" : Str) == ("own_at" : Str)) = false := by decide +kernel
theorem kb_small_item_own_pile : (("small_item" : Str) == ("own_pile" : Str)) = false := by decide +kernel
theorem kb_small_item_own_rows : (("small_item" : Str) == ("own_rows" : Str)) = false := by decide +kernel
theorem kb_small_item_own_text : (("small_item" : Str) == ("own_text" : Str)) = false := by decide +kernel
theorem kb_walked_rows_own_at : (("walked_rows" : Str) == ("own_at" : Str)) = false := by decide +kernel
theorem kb_walked_rows_own_pile : (("walked_rows" : Str) == ("own_pile" : Str)) = false := by decide +kernel
theorem kb_walked_rows_own_rows : (("walked_rows" : Str) == ("own_rows" : Str)) = false := by decide +kernel
theorem kb_walked_rows_own_text : (("walked_rows" : Str) == ("own_text" : Str)) = false := by decide +kernel
theorem lk_tw_own_text (L : List Nat) (p : Int) (r q : Nat) : (twF L p r q).lookup ("own_text" : Str) = some (.str (Sr' L)) := by simp [List.lookup]
theorem lk_tw_own_at (L : List Nat) (p : Int) (r q : Nat) : (twF L p r q).lookup ("own_at" : Str) = some (.int p) := by simp [List.lookup, kb_own_at_own_text]
theorem lk_tw_own_rows (L : List Nat) (p : Int) (r q : Nat) : (twF L p r q).lookup ("own_rows" : Str) = some (.ref r) := by simp [List.lookup, kb_own_rows_own_text, kb_own_rows_own_at]
theorem lk_tw_own_pile (L : List Nat) (p : Int) (r q : Nat) : (twF L p r q).lookup ("own_pile" : Str) = some (.ref q) := by simp [List.lookup, kb_own_pile_own_text, kb_own_pile_own_at, kb_own_pile_own_rows]
theorem lk_tw_next_in (L : List Nat) (p : Int) (r q : Nat) : (twF L p r q).lookup ("next_in" : Str) = none := by simp [List.lookup, kb_next_in_own_text, kb_next_in_own_at, kb_next_in_own_rows, kb_next_in_own_pile]
theorem lk_tw_refuse_here (L : List Nat) (p : Int) (r q : Nat) : (twF L p r q).lookup ("refuse_here" : Str) = none := by simp [List.lookup, kb_refuse_here_own_text, kb_refuse_here_own_at, kb_refuse_here_own_rows, kb_refuse_here_own_pile]
theorem lk_tw_new_row (L : List Nat) (p : Int) (r q : Nat) : (twF L p r q).lookup ("new_row" : Str) = none := by simp [List.lookup, kb_new_row_own_text, kb_new_row_own_at, kb_new_row_own_rows, kb_new_row_own_pile]
theorem lk_tw_go_over_name (L : List Nat) (p : Int) (r q : Nat) : (twF L p r q).lookup ("go_over_name" : Str) = none := by simp [List.lookup, kb_go_over_name_own_text, kb_go_over_name_own_at, kb_go_over_name_own_rows, kb_go_over_name_own_pile]
theorem lk_tw_go_over_number (L : List Nat) (p : Int) (r q : Nat) : (twF L p r q).lookup ("go_over_number" : Str) = none := by simp [List.lookup, kb_go_over_number_own_text, kb_go_over_number_own_at, kb_go_over_number_own_rows, kb_go_over_number_own_pile]
theorem lk_tw_small_item (L : List Nat) (p : Int) (r q : Nat) : (twF L p r q).lookup ("small_item" : Str) = none := by simp [List.lookup, kb_small_item_own_text, kb_small_item_own_at, kb_small_item_own_rows, kb_small_item_own_pile]
theorem lk_tw_begin_item (L : List Nat) (p : Int) (r q : Nat) : (twF L p r q).lookup ("begin_item" : Str) = none := by simp [List.lookup, kb_begin_item_own_text, kb_begin_item_own_at, kb_begin_item_own_rows, kb_begin_item_own_pile]
theorem lk_tw_begin_first (L : List Nat) (p : Int) (r q : Nat) : (twF L p r q).lookup ("begin_first" : Str) = none := by simp [List.lookup, kb_begin_first_own_text, kb_begin_first_own_at, kb_begin_first_own_rows, kb_begin_first_own_pile]
theorem lk_tw_close_item (L : List Nat) (p : Int) (r q : Nat) : (twF L p r q).lookup ("close_item" : Str) = none := by simp [List.lookup, kb_close_item_own_text, kb_close_item_own_at, kb_close_item_own_rows, kb_close_item_own_pile]
theorem lk_tw_go_on (L : List Nat) (p : Int) (r q : Nat) : (twF L p r q).lookup ("go_on" : Str) = none := by simp [List.lookup, kb_go_on_own_text, kb_go_on_own_at, kb_go_on_own_rows, kb_go_on_own_pile]
theorem lk_tw_walked_rows (L : List Nat) (p : Int) (r q : Nat) : (twF L p r q).lookup ("walked_rows" : Str) = none := by simp [List.lookup, kb_walked_rows_own_text, kb_walked_rows_own_at, kb_walked_rows_own_rows, kb_walked_rows_own_pile]
theorem lk_ir_own_path (path : List Nat) (f b : Int) (k : Str) (v : D) : (irF path f b k v).lookup ("own_path" : Str) = some (pathD path) := by simp [List.lookup]
theorem lk_ir_own_first (path : List Nat) (f b : Int) (k : Str) (v : D) : (irF path f b k v).lookup ("own_first" : Str) = some (.int f) := by simp [List.lookup, kb_own_first_own_path]
theorem lk_ir_own_behind (path : List Nat) (f b : Int) (k : Str) (v : D) : (irF path f b k v).lookup ("own_behind" : Str) = some (.int b) := by simp [List.lookup, kb_own_behind_own_path, kb_own_behind_own_first]
theorem lk_ir_own_kind (path : List Nat) (f b : Int) (k : Str) (v : D) : (irF path f b k v).lookup ("own_kind" : Str) = some (.str k) := by simp [List.lookup, kb_own_kind_own_path, kb_own_kind_own_first, kb_own_kind_own_behind]
theorem lk_ir_own_value (path : List Nat) (f b : Int) (k : Str) (v : D) : (irF path f b k v).lookup ("own_value" : Str) = some (v) := by simp [List.lookup, kb_own_value_own_path, kb_own_value_own_first, kb_own_value_own_behind, kb_own_value_own_kind]
theorem lk_oi_own_path (path : List Nat) (row : D) (many : Int) : (oiF path row many).lookup ("own_path" : Str) = some (pathD path) := by simp [List.lookup]
theorem lk_oi_own_row (path : List Nat) (row : D) (many : Int) : (oiF path row many).lookup ("own_row" : Str) = some (row) := by simp [List.lookup, kb_own_row_own_path]
theorem lk_oi_own_many (path : List Nat) (row : D) (many : Int) : (oiF path row many).lookup ("own_many" : Str) = some (.int many) := by simp [List.lookup, kb_own_many_own_path, kb_own_many_own_row]
theorem pt_tw_own_at (L : List Nat) (p : Int) (r q : Nat) (x : Int) : putD ("own_at" : Str) (.int x) (twF L p r q) = twF L x r q := by simp [putD, kn_own_text_own_at]
theorem pt_ir_own_behind (path : List Nat) (f b : Int) (k : Str) (v : D) (x : Int) : putD ("own_behind" : Str) (.int x) (irF path f b k v) = irF path f x k v := by simp [putD, kn_own_path_own_behind, kn_own_first_own_behind]
theorem pt_ir_own_kind (path : List Nat) (f b : Int) (k : Str) (v : D) (x : Str) : putD ("own_kind" : Str) (.str x) (irF path f b k v) = irF path f b x v := by simp [putD, kn_own_path_own_kind, kn_own_first_own_kind, kn_own_behind_own_kind]
theorem pt_ir_own_value (path : List Nat) (f b : Int) (k : Str) (v : D) (x : D) : putD ("own_value" : Str) (x) (irF path f b k v) = irF path f b k x := by simp [putD, kn_own_path_own_value, kn_own_first_own_value, kn_own_behind_own_value, kn_own_kind_own_value]
theorem pt_oi_own_many (path : List Nat) (row : D) (many : Int) (x : Int) : putD ("own_many" : Str) (.int x) (oiF path row many) = oiF path row x := by simp [putD, kn_own_path_own_many, kn_own_row_own_many]

theorem dFld_ok {G : Addr → Bool} {f : Str} {t : Nat} {S : Sto} {C : Addr} {fs : List (Str × D)} {d : D} (h : S[t]? = some (.ins C fs)) (hG : G C = true) (hl : fs.lookup f = some d) : dFld G f (.ref t) S = .ok d S := by
  simp [dFld, h, hG, hl]
theorem fldA_ok {G : Addr → Bool} {f : Str} {t : Nat} {S : Sto} {C : Addr} {fs fs' : List (Str × D)} {d : D} {o e : Ed} {Γ : En} (he : e Γ S = .ok d S) (ho : o Γ S = .ok (.ref t) S) (h : S[t]? = some (.ins C fs)) (hG : G C = true) (hz : fs.length < 1000) (hp : putD f d fs = fs') : sFldA G f o e Γ S = .nx Γ (S.set t (.ins C fs')) := by
  simp [sFldA, he, ho, h, hG, hz, hp, Res.toS]
theorem fldG_ok {G : Addr → Bool} {f : Str} {hh : Int → Int → Int} {t : Nat} {S : Sto} {C : Addr} {fs fs' : List (Str × D)} {i j : Int} {o e : Ed} {Γ : En} (ho : o Γ S = .ok (.ref t) S) (h : S[t]? = some (.ins C fs)) (hG : G C = true) (hl : fs.lookup f = some (.int i)) (he : e Γ S = .ok (.int j) S) (hz : fs.length < 1000) (hp : putD f (.int (hh i j)) fs = fs') : sFldG G f hh o e Γ S = .nx Γ (S.set t (.ins C fs')) := by
  simp [sFldG, he, ho, h, hG, hl, hz, hp, Res.toS]
theorem meth_ok {H : Addr → Bool} {m : Str} {n t : Nat} {fn : Fn} {a : Ed} {b : Ad} {Γ : En} {S : Sto} {C : Addr} {fs : List (Str × D)} {ds : List D} {r : Res D} (ha : a Γ S = .ok (.ref t) S) (h : S[t]? = some (.ins C fs)) (hG : H C = true) (hl : fs.lookup m = none) (hb : b Γ S = .ok ds S) (hn : ds.length + 1 = n) (hr : fn (.ref t :: ds) S = r) : mMeth H m n fn a b Γ S = r := by
  simp [mMeth, dMeth, ha, h, hG, hl, hb, arg, hn, hr, Res.bind]
theorem g_own_text (A : Ads) : G_own_text A A.C_TextWalk = true := by simp [G_own_text]
theorem g_own_at (A : Ads) : G_own_at A A.C_TextWalk = true := by simp [G_own_at]
theorem g_own_rows (A : Ads) : G_own_rows A A.C_TextWalk = true := by simp [G_own_rows]
theorem g_own_pile (A : Ads) : G_own_pile A A.C_TextWalk = true := by simp [G_own_pile]
theorem gi_own_path (A : Ads) : G_own_path A A.C_ItemRow = true := by simp [G_own_path]
theorem gi_own_first (A : Ads) : G_own_first A A.C_ItemRow = true := by simp [G_own_first]
theorem gi_own_behind (A : Ads) : G_own_behind A A.C_ItemRow = true := by simp [G_own_behind]
theorem gi_own_kind (A : Ads) : G_own_kind A A.C_ItemRow = true := by simp [G_own_kind]
theorem gi_own_value (A : Ads) : G_own_value A A.C_ItemRow = true := by simp [G_own_value]
theorem go_own_path (A : Ads) : G_own_path A A.C_OpenItem = true := by simp [G_own_path]
theorem go_own_row (A : Ads) : G_own_row A A.C_OpenItem = true := by simp [G_own_row]
theorem go_own_many (A : Ads) : G_own_many A A.C_OpenItem = true := by simp [G_own_many]
theorem h_next_in (A : Ads) : H_next_in A A.C_TextWalk = true := by simp [H_next_in]
theorem h_refuse_here (A : Ads) : H_refuse_here A A.C_TextWalk = true := by simp [H_refuse_here]
theorem h_new_row (A : Ads) : H_new_row A A.C_TextWalk = true := by simp [H_new_row]
theorem h_go_over_name (A : Ads) : H_go_over_name A A.C_TextWalk = true := by simp [H_go_over_name]
theorem h_go_over_number (A : Ads) : H_go_over_number A A.C_TextWalk = true := by simp [H_go_over_number]
theorem h_small_item (A : Ads) : H_small_item A A.C_TextWalk = true := by simp [H_small_item]
theorem h_begin_item (A : Ads) : H_begin_item A A.C_TextWalk = true := by simp [H_begin_item]
theorem h_begin_first (A : Ads) : H_begin_first A A.C_TextWalk = true := by simp [H_begin_first]
theorem h_close_item (A : Ads) : H_close_item A A.C_TextWalk = true := by simp [H_close_item]
theorem h_go_on (A : Ads) : H_go_on A A.C_TextWalk = true := by simp [H_go_on]
theorem h_walked_rows (A : Ads) : H_walked_rows A A.C_TextWalk = true := by simp [H_walked_rows]

/-- the sign at p is one of z -/
def isAt (L : List Nat) (p : Nat) (z : Str) : Bool := match L[p]? with
  | some c => decide (c ∈ tl z)
  | none => false
theorem fld_tw {A : Ads} {S : Sto} {t : Nat} {L : List Nat} {p : Int} {r q : Nat} (h : S[t]? = some (.ins A.C_TextWalk (twF L p r q))) :
    dFld (G_own_text A) "own_text" (.ref t) S = .ok (.str (Sr' L)) S ∧ dFld (G_own_at A) "own_at" (.ref t) S = .ok (.int p) S ∧ dFld (G_own_rows A) "own_rows" (.ref t) S = .ok (.ref r) S ∧ dFld (G_own_pile A) "own_pile" (.ref t) S = .ok (.ref q) S :=
  ⟨dFld_ok h (g_own_text A) (lk_tw_own_text ..), dFld_ok h (g_own_at A) (lk_tw_own_at ..), dFld_ok h (g_own_rows A) (lk_tw_own_rows ..), dFld_ok h (g_own_pile A) (lk_tw_own_pile ..)⟩
theorem ix_str {L : List Nat} {p : Nat} {c : Nat} (h : L[p]? = some c) (hl : L.length ≤ 100000) (S : Sto) : dIx (.str (Sr' L)) (.int p) S = .ok (.str (Sr' [c])) S := by
  have hb : big = 1000000 := rfl
  have hz : (Sr' L).length ≤ big := by rw [sr_len]; omega
  have ha : atI L (p : Int) = some c := by
    rw [atI_nat (by omega) (by have := get_lt h; omega)]
    exact h
  show (if (Sr' L).length ≤ big then match atI L (p : Int) with | some c => Res.ok (D.str ⟨#[c]⟩) S | none => .bad else .bad) = _
  rw [if_pos hz, ha]
theorem next_ev (A : Ads) {S : Sto} {t : Nat} {L : List Nat} {p : Nat} {r q : Nat} (h : S[t]? = some (.ins A.C_TextWalk (twF L p r q))) (hl : L.length ≤ 100000) (z : Str) : m_TextWalk_next_in A [.ref t, .str z] S = .ok (.bl (isAt L p z)) S := by
  obtain ⟨e1, e2, e3, e4⟩ := fld_tw h
  have el := len_str L S hl
  unfold isAt
  cases hc : L[p]? with
  | none =>
    have hp : ¬ ((p : Int) < L.length) := by
      have := List.getElem?_eq_none_iff.mp hc
      omega
    simp [m_TextWalk_next_in, runF, enter, sRet, vAnd, mOp, mUn, mVar, mBlt, aCons, aNil, e1, e2, el, dII, hp, Res.bind, Res.toS]
  | some c =>
    have hp : (p : Int) < L.length := by
      have := get_lt hc
      omega
    have ei := ix_str hc hl S
    simp [m_TextWalk_next_in, runF, enter, sRet, vAnd, mOp, mUn, mVar, mBlt, aCons, aNil, e1, e2, el, ei, dII, hp, dSg, Res.bind, Res.toS]
end K68
end

section
set_option Elab.async false
set_option linter.all false
set_option maxRecDepth 100000
set_option maxHeartbeats 4000000
namespace K68
open PySem PySem.Spec PyProof.Rows L2 Fx TL
structure Rw where
  i : Nat
  path : List Nat
  first : Nat
  behind : Nat
  kind : Str
  val : D
structure Op where
  i : Nat
  path : List Nat
  row : D
  many : Nat
abbrev Rw.o (A : Ads) (x : Rw) : O := .ins A.C_ItemRow (irF x.path x.first x.behind x.kind x.val)
abbrev Op.o (A : Ads) (x : Op) : O := .ins A.C_OpenItem (oiF x.path x.row x.many)
abbrev twO (A : Ads) (L : List Nat) (p r q : Nat) : O := .ins A.C_TextWalk (twF L p r q)
structure Ne (A : Ads) : Prop where
  ti : A.C_TextWalk ≠ A.C_ItemRow
  to : A.C_TextWalk ≠ A.C_OpenItem
  io : A.C_ItemRow ≠ A.C_OpenItem
structure PS (A : Ads) (S0 S : Sto) (t : Nat) (L : List Nat) (p r q : Nat) (rs : List Rw) (pl : List Op) : Prop where
  base : S0 <+: S
  tw : S[t]? = some (twO A L p r q)
  rw' : S[r]? = some (.lst (rs.map fun x => D.ref x.i))
  pw : S[q]? = some (.lst (pl.map fun x => D.ref x.i))
  ro : ∀ x ∈ rs, S[x.i]? = some (x.o A)
  po : ∀ x ∈ pl, S[x.i]? = some (x.o A)
  ndr : (rs.map (·.i)).Nodup
  ndp : (pl.map (·.i)).Nodup
  rq : r ≠ q
  gt : S0.length ≤ t
  gr : S0.length ≤ r
  gq : S0.length ≤ q
  grs : ∀ x ∈ rs, S0.length ≤ x.i
  gpl : ∀ x ∈ pl, S0.length ≤ x.i
theorem ne_get {S : Sto} {i j : Nat} {a b : O} (h1 : S[i]? = some a) (h2 : S[j]? = some b) (h : a ≠ b) : i ≠ j := fun e => by
  subst e
  rw [h1] at h2
  exact h (Option.some.inj h2)
theorem ins_ne {C D' : Addr} {f g : List (Str × D)} (h : C ≠ D') : O.ins C f ≠ O.ins D' g := fun e => by
  injection e with e1 e2
  exact h e1
theorem lst_ne {l : List D} {C : Addr} {f : List (Str × D)} : O.lst l ≠ O.ins C f := fun e => by cases e
theorem set_ne {S : Sto} {i j : Nat} {x : O} (h : i ≠ j) : (S.set i x)[j]? = S[j]? := List.getElem?_set_ne h
theorem app_get {S : Sto} {i : Nat} {a : O} (x : O) (h : S[i]? = some a) : (S ++ [x])[i]? = some a := by
  rw [List.getElem?_append_left (get_lt h)]
  exact h
section
variable {A : Ads} {S0 S : Sto} {t : Nat} {L : List Nat} {p r q : Nat} {rs : List Rw} {pl : List Op}
theorem PS.tr (h : PS A S0 S t L p r q rs pl) : t ≠ r := ne_get h.tw h.rw' lst_ne.symm
theorem PS.tq (h : PS A S0 S t L p r q rs pl) : t ≠ q := ne_get h.tw h.pw lst_ne.symm
theorem PS.trs (h : PS A S0 S t L p r q rs pl) (n : Ne A) {x : Rw} (hx : x ∈ rs) : t ≠ x.i := ne_get h.tw (h.ro x hx) (ins_ne n.ti)
theorem PS.tpl (h : PS A S0 S t L p r q rs pl) (n : Ne A) {x : Op} (hx : x ∈ pl) : t ≠ x.i := ne_get h.tw (h.po x hx) (ins_ne n.to)
theorem PS.rrs (h : PS A S0 S t L p r q rs pl) {x : Rw} (hx : x ∈ rs) : r ≠ x.i := ne_get h.rw' (h.ro x hx) lst_ne
theorem PS.rpl (h : PS A S0 S t L p r q rs pl) {x : Op} (hx : x ∈ pl) : r ≠ x.i := ne_get h.rw' (h.po x hx) lst_ne
theorem PS.qrs (h : PS A S0 S t L p r q rs pl) {x : Rw} (hx : x ∈ rs) : q ≠ x.i := ne_get h.pw (h.ro x hx) lst_ne
theorem PS.qpl (h : PS A S0 S t L p r q rs pl) {x : Op} (hx : x ∈ pl) : q ≠ x.i := ne_get h.pw (h.po x hx) lst_ne
theorem PS.ip (h : PS A S0 S t L p r q rs pl) (n : Ne A) {x : Rw} (hx : x ∈ rs) {y : Op} (hy : y ∈ pl) : x.i ≠ y.i := ne_get (h.ro x hx) (h.po y hy) (ins_ne n.io)
/-- the place moves -/
theorem PS.at (h : PS A S0 S t L p r q rs pl) (n : Ne A) (p' : Nat) : PS A S0 (S.set t (twO A L p' r q)) t L p' r q rs pl where
  base := pre_set _ h.base h.gt
  tw := List.getElem?_set_self (get_lt h.tw)
  rw' := (set_ne h.tr).trans h.rw'
  pw := (set_ne h.tq).trans h.pw
  ro x hx := (set_ne (h.trs n hx)).trans (h.ro x hx)
  po x hx := (set_ne (h.tpl n hx)).trans (h.po x hx)
  ndr := h.ndr
  ndp := h.ndp
  rq := h.rq
  gt := h.gt
  gr := h.gr
  gq := h.gq
  grs := h.grs
  gpl := h.gpl
/-- a thing behind all -/
theorem PS.app (h : PS A S0 S t L p r q rs pl) (x : O) : PS A S0 (S ++ [x]) t L p r q rs pl where
  base := h.base.trans (List.prefix_append _ _)
  tw := app_get x h.tw
  rw' := app_get x h.rw'
  pw := app_get x h.pw
  ro y hy := app_get x (h.ro y hy)
  po y hy := app_get x (h.po y hy)
  ndr := h.ndr
  ndp := h.ndp
  rq := h.rq
  gt := h.gt
  gr := h.gr
  gq := h.gq
  grs := h.grs
  gpl := h.gpl
/-- a thing that nobody here knows turns -/
theorem PS.other (h : PS A S0 S t L p r q rs pl) {j : Nat} (x : O) (hj : S0.length ≤ j) (h1 : j ≠ t) (h2 : j ≠ r) (h3 : j ≠ q) (h4 : ∀ y ∈ rs, j ≠ y.i) (h5 : ∀ y ∈ pl, j ≠ y.i) : PS A S0 (S.set j x) t L p r q rs pl where
  base := pre_set _ h.base hj
  tw := (set_ne h1).trans h.tw
  rw' := (set_ne h2).trans h.rw'
  pw := (set_ne h3).trans h.pw
  ro y hy := (set_ne (h4 y hy)).trans (h.ro y hy)
  po y hy := (set_ne (h5 y hy)).trans (h.po y hy)
  ndr := h.ndr
  ndp := h.ndp
  rq := h.rq
  gt := h.gt
  gr := h.gr
  gq := h.gq
  grs := h.grs
  gpl := h.gpl
/-- the rows change: the list, and nothing else -/
theorem PS.rows (h : PS A S0 S t L p r q rs pl) (rs' : List Rw) (h1 : ∀ x ∈ rs', S[x.i]? = some (x.o A)) (h2 : (rs'.map (·.i)).Nodup) (h3 : ∀ x ∈ rs', S0.length ≤ x.i) : PS A S0 (S.set r (.lst (rs'.map fun x => D.ref x.i))) t L p r q rs' pl where
  base := pre_set _ h.base h.gr
  tw := (set_ne h.tr.symm).trans h.tw
  rw' := List.getElem?_set_self (get_lt h.rw')
  pw := (set_ne h.rq).trans h.pw
  ro x hx := (set_ne (ne_get h.rw' (h1 x hx) lst_ne)).trans (h1 x hx)
  po x hx := (set_ne (h.rpl hx)).trans (h.po x hx)
  ndr := h2
  ndp := h.ndp
  rq := h.rq
  gt := h.gt
  gr := h.gr
  gq := h.gq
  grs := h3
  gpl := h.gpl
theorem PS.pile (h : PS A S0 S t L p r q rs pl) (pl' : List Op) (h1 : ∀ x ∈ pl', S[x.i]? = some (x.o A)) (h2 : (pl'.map (·.i)).Nodup) (h3 : ∀ x ∈ pl', S0.length ≤ x.i) : PS A S0 (S.set q (.lst (pl'.map fun x => D.ref x.i))) t L p r q rs pl' where
  base := pre_set _ h.base h.gq
  tw := (set_ne h.tq.symm).trans h.tw
  rw' := (set_ne h.rq.symm).trans h.rw'
  pw := List.getElem?_set_self (get_lt h.pw)
  ro x hx := (set_ne (h.qrs hx)).trans (h.ro x hx)
  po x hx := (set_ne (ne_get h.pw (h1 x hx) lst_ne)).trans (h1 x hx)
  ndr := h.ndr
  ndp := h2
  rq := h.rq
  gt := h.gt
  gr := h.gr
  gq := h.gq
  grs := h.grs
  gpl := h3
theorem nodup_mid {α : Type} {f : α → Nat} {a b : List α} {x y : α} (nd : ((a ++ x :: b).map f).Nodup) (hy : y ∈ a ++ b) : f x ≠ f y := fun e => by
  rw [List.map_append, List.map_cons] at nd
  have nd' := List.nodup_append.mp nd
  rcases List.mem_append.mp hy with h | h
  · exact nd'.2.2 _ (List.mem_map_of_mem h) _ (List.mem_cons_self ..) e.symm
  · exact (List.nodup_cons.mp nd'.2.1).1 (by rw [e]; exact List.mem_map_of_mem h)
/-- one row turns -/
theorem PS.row {a b : List Rw} {x : Rw} (h : PS A S0 S t L p r q (a ++ x :: b) pl) (n : Ne A) (x' : Rw) (hi : x'.i = x.i) : PS A S0 (S.set x.i (x'.o A)) t L p r q (a ++ x' :: b) pl where
  base := pre_set _ h.base (h.grs x (by simp))
  tw := (set_ne (h.trs n (by simp)).symm).trans h.tw
  rw' := by
    rw [set_ne (h.rrs (x := x) (by simp)).symm, h.rw']
    simp [hi]
  pw := (set_ne (h.qrs (x := x) (by simp)).symm).trans h.pw
  ro y hy := by
    rcases List.mem_append.mp hy with hy | hy
    · rw [set_ne (nodup_mid h.ndr (List.mem_append_left _ hy))]
      exact h.ro y (by simp [hy])
    · rcases List.mem_cons.mp hy with rfl | hy
      · rw [hi]
        exact List.getElem?_set_self (get_lt (h.ro x (by simp)))
      · rw [set_ne (nodup_mid h.ndr (List.mem_append_right _ hy))]
        exact h.ro y (by simp [hy])
  po y hy := (set_ne (h.ip n (by simp) hy)).trans (h.po y hy)
  ndr := by
    have := h.ndr
    simpa [hi] using this
  ndp := h.ndp
  rq := h.rq
  gt := h.gt
  gr := h.gr
  gq := h.gq
  grs y hy := by
    rcases List.mem_append.mp hy with hy | hy
    · exact h.grs y (by simp [hy])
    · rcases List.mem_cons.mp hy with rfl | hy
      · rw [hi]
        exact h.grs x (by simp)
      · exact h.grs y (by simp [hy])
  gpl := h.gpl
theorem PS.op {a : List Op} {x : Op} (h : PS A S0 S t L p r q rs (a ++ [x])) (n : Ne A) (x' : Op) (hi : x'.i = x.i) : PS A S0 (S.set x.i (x'.o A)) t L p r q rs (a ++ [x']) where
  base := pre_set _ h.base (h.gpl x (by simp))
  tw := (set_ne (h.tpl n (by simp)).symm).trans h.tw
  rw' := (set_ne (h.rpl (x := x) (by simp)).symm).trans h.rw'
  pw := by
    rw [set_ne (h.qpl (x := x) (by simp)).symm, h.pw]
    simp [hi]
  ro y hy := (set_ne (h.ip n hy (by simp)).symm).trans (h.ro y hy)
  po y hy := by
    rcases List.mem_append.mp hy with hy | hy
    · rw [set_ne (nodup_mid h.ndp (List.mem_append_left _ hy))]
      exact h.po y (by simp [hy])
    · rw [List.mem_singleton.mp hy, hi]
      exact List.getElem?_set_self (get_lt (h.po x (by simp)))
  ndr := h.ndr
  ndp := by
    have := h.ndp
    simpa [hi] using this
  rq := h.rq
  gt := h.gt
  gr := h.gr
  gq := h.gq
  grs := h.grs
  gpl y hy := by
    rcases List.mem_append.mp hy with hy | hy
    · exact h.gpl y (by simp [hy])
    · rw [List.mem_singleton.mp hy, hi]
      exact h.gpl x (by simp)
end
end K68
end

section
set_option Elab.async false
set_option linter.all false
set_option maxRecDepth 100000
set_option maxHeartbeats 4000000
namespace K68
open PySem PySem.Spec PyProof.Rows L2 Fx TL
theorem ix_last {S : Sto} {q : Nat} {a : List D} {x : D} (h : S[q]? = some (.lst (a ++ [x]))) : dIx (.ref q) (.int (-1)) S = .ok x S := by
  refine dIx_ref (-1) h ?_
  unfold atI ixN
  have h1 : ¬ (0 ≤ (-1 : Int)) := by decide
  have h2 : -(((a ++ [x]).length : Nat) : Int) ≤ -1 := by simp; omega
  have h3 : (-1 + (((a ++ [x]).length : Nat) : Int)).toNat = a.length := by simp; omega
  rw [if_neg h1, if_pos h2, h3]
  simp
theorem ir_make (A : Ads) {S : Sto} (p : List Nat) (f : Int) (k : Str) (v : D) : m_ItemRow___init__ A [.ref S.length, pathD p, .int f, .str k, v] (S ++ [.ins A.C_ItemRow []]) = .ok .non (S ++ [.ins A.C_ItemRow (irF p f f k v)]) := by
  have g : (S ++ [O.ins A.C_ItemRow []])[S.length]? = some (.ins A.C_ItemRow []) := by simp
  simp [m_ItemRow___init__, runF, enter, sSeq, sFldA, mVar, gi_own_path, gi_own_first, gi_own_behind, gi_own_kind, gi_own_value, putD, kn_own_path_own_first, kn_own_path_own_behind, kn_own_first_own_behind, kn_own_path_own_kind, kn_own_first_own_kind, kn_own_behind_own_kind, kn_own_path_own_value, kn_own_first_own_value, kn_own_behind_own_value, kn_own_kind_own_value, Res.toS, Res.bind, List.set_append_right]
theorem sDrop_ok {a : Ed} {Γ : En} {S S1 : Sto} {d : D} (h : a Γ S = .ok d S1) : sDrop a Γ S = .nx Γ S1 := by
  simp [sDrop, h, Res.toS]
theorem new_ev (A : Ads) (n : Ne A) {S0 S : Sto} {t : Nat} {L : List Nat} {p r q : Nat} {rs : List Rw} {pl : List Op} {o : Op} (h : PS A S0 S t L p r q rs (pl ++ [o])) (hp : o.path.length ≤ 100) (hr : rs.length ≤ 10000) (f : Nat) (k : Str) (v : D) :
    ∃ S', m_TextWalk_new_row A [.ref t, .int f, .str k, v] S = .ok (.ref S.length) S' ∧ PS A S0 S' t L p r q (rs ++ [⟨S.length, o.path ++ [o.many], f, f, k, v⟩]) (pl ++ [⟨o.i, o.path, o.row, o.many + 1⟩]) ∧ S.length < S'.length := by
  have hb : big = 1000000 := rfl
  have hpw := h.pw
  rw [List.map_append] at hpw
  have e1 := ix_last hpw
  have ep := (fld_tw h.tw).2.2.2
  have er := (fld_tw h.tw).2.2.1
  have ho := h.po o (by simp)
  have f1 := dFld_ok ho (go_own_path A) (lk_oi_own_path ..)
  have f2 := dFld_ok ho (go_own_many A) (lk_oi_own_many ..)
  -- the new row
  have h1 := h.app (.ins A.C_ItemRow (irF (o.path ++ [o.many]) f f k v))
  have ho1 := h1.po o (by simp)
  have h2 := h1.op n (x := o) ⟨o.i, o.path, o.row, o.many + 1⟩ rfl
  have hnew : (S ++ [O.ins A.C_ItemRow (irF (o.path ++ [o.many]) f f k v)])[S.length]? = some (.ins A.C_ItemRow (irF (o.path ++ [o.many]) f f k v)) := by simp
  have hne : o.i ≠ S.length := Nat.ne_of_lt (get_lt ho)
  have hnew2 : ((S ++ [O.ins A.C_ItemRow (irF (o.path ++ [o.many]) f f k v)]).set o.i (Op.o A ⟨o.i, o.path, o.row, o.many + 1⟩))[S.length]? = some (.ins A.C_ItemRow (irF (o.path ++ [o.many]) f f k v)) := (set_ne hne).trans hnew
  have hlt : ∀ x ∈ rs, x.i < S.length := fun x hx => get_lt (h.ro x hx)
  have h3 := h2.rows (rs ++ [⟨S.length, o.path ++ [o.many], f, f, k, v⟩]) (fun x hx => by
      rcases List.mem_append.mp hx with hx | hx
      · exact h2.ro x hx
      · rw [List.mem_singleton.mp hx]
        exact hnew2) (by
      rw [List.map_append, List.nodup_append]
      refine ⟨h.ndr, by simp, fun a ha b hb e => ?_⟩
      obtain ⟨x, hx, rfl⟩ := List.mem_map.mp ha
      have : b = S.length := by simpa using hb
      have := hlt x hx
      omega) (fun x hx => by
      rcases List.mem_append.mp hx with hx | hx
      · exact h.grs x hx
      · rw [List.mem_singleton.mp hx]
        exact h.base.length_le)
  refine ⟨_, ?_, h3, by simp⟩
  have s1 : sAsg (gN 4) (mOp dIx (mUn (dFld (G_own_pile A) ("own_pile" : Str)) (mVar 0)) (mUn dNeg (mC (.int 1)))) (enter 6 [.ref t, .int f, .str k, v]) S = .nx [some (.ref t), some (.int f), some (.str k), some v, some (.ref o.i), none] S := by
    simp [sAsg, gN, mOp, mUn, mVar, enter, ep, dNeg, e1, Res.bind, Res.toS]
  have et : mTup (aStar (mUn (dFld (G_own_path A) ("own_path" : Str)) (mVar 4)) (aCons (mUn (dFld (G_own_many A) ("own_many" : Str)) (mVar 4)) aNil)) [some (.ref t), some (.int f), some (.str k), some v, some (.ref o.i), none] S = .ok (pathD (o.path ++ [o.many])) S := by
    have hz : o.path.length + 1 ≤ big := by omega
    have hq : dSq S (pathD o.path) = some (o.path.map fun i : Nat => D.int (i : Int)) := rfl
    simp [mTup, aStar, aCons, aNil, mUn, mVar, f1, f2, hq, hz, Res.bind]
    simp [pathD]
  have s2 : sAsg (gN 5) (mMake A.C_ItemRow 5 (m_ItemRow___init__ A) (aCons (mTup (aStar (mUn (dFld (G_own_path A) ("own_path" : Str)) (mVar 4)) (aCons (mUn (dFld (G_own_many A) ("own_many" : Str)) (mVar 4)) aNil))) (aCons (mVar 1) (aCons (mVar 2) (aCons (mVar 3) aNil))))) [some (.ref t), some (.int f), some (.str k), some v, some (.ref o.i), none] S
      = .nx [some (.ref t), some (.int f), some (.str k), some v, some (.ref o.i), some (.ref S.length)] (S ++ [.ins A.C_ItemRow (irF (o.path ++ [o.many]) f f k v)]) := by
    generalize mTup (aStar (mUn (dFld (G_own_path A) ("own_path" : Str)) (mVar 4)) (aCons (mUn (dFld (G_own_many A) ("own_many" : Str)) (mVar 4)) aNil)) = te at et
    simp [sAsg, gN, mMake, aCons, aNil, mVar, et, arg, ir_make, Res.bind, Res.toS]
  have s3 : sFldG (G_own_many A) ("own_many" : Str) (fun i j => i + j) (mVar 4) (mC (.int 1)) [some (.ref t), some (.int f), some (.str k), some v, some (.ref o.i), some (.ref S.length)] (S ++ [.ins A.C_ItemRow (irF (o.path ++ [o.many]) f f k v)]) = .nx [some (.ref t), some (.int f), some (.str k), some v, some (.ref o.i), some (.ref S.length)] ((S ++ [O.ins A.C_ItemRow (irF (o.path ++ [o.many]) f f k v)]).set o.i (Op.o A ⟨o.i, o.path, o.row, o.many + 1⟩)) :=
    fldG_ok (mVar_ev rfl) ho1 (go_own_many A) (lk_oi_own_many ..) rfl (by simp) (pt_oi_own_many ..)
  have hr2 := h2.rw'
  have e4 : ∀ S2 : Sto, S2[t]? = some (twO A L p r q) → mUn (dFld (G_own_rows A) ("own_rows" : Str)) (mVar 0) [some (.ref t), some (.int f), some (.str k), some v, some (.ref o.i), some (.ref S.length)] S2 = .ok (.ref r) S2 := fun S2 h2 => by
    have := (fld_tw h2).2.2.1
    simp [mUn, mVar, this, Res.bind]
  have e4 := e4 _ h2.tw
  have s4 := append_ev (e := mVar 5) e4 (mVar_ev rfl) hr2 (by simp; omega)
  refine runF_rt ?_
  refine (sSeq_nx s1).trans ((sSeq_nx s2).trans ((sSeq_nx s3).trans ((sSeq_nx (sDrop_ok s4)).trans ?_)))
  simp [sRet, mVar, Res.toS]
end K68
end

section
set_option Elab.async false
set_option linter.all false
set_option maxRecDepth 100000
set_option maxHeartbeats 4000000
namespace K68
open PySem PySem.Spec PyProof.Rows L2 Fx TL
theorem tl_fig : tl ("0123456789" : Str) = [48, 49, 50, 51, 52, 53, 54, 55, 56, 57] := by decide +kernel
theorem tl_lead : tl ("123456789" : Str) = [49, 50, 51, 52, 53, 54, 55, 56, 57] := by decide +kernel
theorem tl_let : tl ("abcdefghijklmnopqrstuvwxyz" : Str) = [97, 98, 99, 100, 101, 102, 103, 104, 105, 106, 107, 108, 109, 110, 111, 112, 113, 114, 115, 116, 117, 118, 119, 120, 121, 122] := by decide +kernel
/-- the sign at n, if there is one, is a blank or ) -/
def Stop (L : List Nat) (n : Nat) : Prop := ∀ c, L[n]? = some c → c = 32 ∨ c = 41
theorem stop_not {L : List Nat} {n : Nat} (h : Stop L n) {z : Str} (h1 : 32 ∉ tl z) (h2 : 41 ∉ tl z) : isAt L n z = false := by
  unfold isAt
  cases e : L[n]? with
  | none => rfl
  | some c =>
    rcases h c e with rfl | rfl
    · exact decide_eq_false h1
    · exact decide_eq_false h2
theorem isAt_of {L : List Nat} {n c : Nat} (h : L[n]? = some c) {z : Str} (hz : c ∈ tl z) : isAt L n z = true := by
  unfold isAt
  rw [h]
  exact decide_eq_true hz
theorem isAt_no {L : List Nat} {n c : Nat} (h : L[n]? = some c) {z : Str} (hz : c ∉ tl z) : isAt L n z = false := by
  unfold isAt
  rw [h]
  exact decide_eq_false hz
theorem cut_ev {L : List Nat} {a b : Nat} (h1 : a ≤ b) (h2 : b ≤ L.length) (hl : L.length ≤ 100000) (S : Sto) : dSl true (.str (Sr' L)) (some (a : Int)) (some (b : Int)) S = .ok (.str (Sr' ((L.drop a).take (b - a)))) S := by
  have hb : big = 1000000 := rfl
  have hz : (Sr' L).length ≤ big := by rw [sr_len]; omega
  show (if (Sr' L).length ≤ big then Res.ok (D.str (cutS (Sr' L) (some (a : Int)) (some (b : Int)))) S else .bad) = _
  rw [if_pos hz]
  unfold cutS
  simp only [HT.sIx_nat, sr_len]
  rw [Nat.min_eq_left (show a ≤ L.length by omega), Nat.min_eq_left h2]
theorem int_ev {i : Nat} (h : i < 100) (S : Sto) : fInt [.str (Sr' (numL i))] S = .ok (.int i) S := by
  have e : Sr' (numL i) = Str.ofString (toString ((i : Nat) : Int)) := ext_tl (by rw [tl_num])
  have hs := numL_small h
  have e2 : intText? (Sr' (numL i)) = some (i : Int) := by
    rw [e]
    exact int_num (by omega)
  have hz : (Sr' (numL i)).length ≤ 640 := by rw [sr_len]; omega
  simp [fInt, e2, hz]
theorem num_two {i : Nat} (h : 10 ≤ i) (h2 : i < 100) : numL i = [48 + i / 10, 48 + i % 10] := by
  rw [numL_step h, numL_lt (by omega)]
  rfl
section
variable {A : Ads} {S0 S : Sto} {t : Nat} {L : List Nat} {p r q : Nat} {rs : List Rw} {pl : List Op}
/-- self.own_at += 1 -/
theorem inc_ev (h : PS A S0 S t L p r q rs pl) {Γ : En} (hΓ : Γ[0]? = some (some (.ref t))) (j : Nat) : sFldG (G_own_at A) ("own_at" : Str) (fun i j => i + j) (mVar 0) (mC (.int j)) Γ S = .nx Γ (S.set t (twO A L (p + j) r q)) :=
  fldG_ok (mVar_ev hΓ) h.tw (g_own_at A) (lk_tw_own_at ..) rfl (by simp) (pt_tw_own_at ..)
theorem nextM (A : Ads) (h : PS A S0 S t L p r q rs pl) (hl : L.length ≤ 100000) {Γ : En} (hΓ : Γ[0]? = some (some (.ref t))) (z : Str) : mMeth (H_next_in A) ("next_in" : Str) 2 (m_TextWalk_next_in A) (mVar 0) (aCons (mC (.str z)) aNil) Γ S = .ok (.bl (isAt L p z)) S :=
  meth_ok (mVar_ev hΓ) h.tw (h_next_in A) (lk_tw_next_in ..) rfl rfl (next_ev A h.tw hl z)
theorem num_ev (A : Ads) (n : Ne A) (h : PS A S0 S t L p r q rs pl) (hl : L.length ≤ 100000) {i : Nat} (hi : i < 100) {rest : List Nat} (hL : L.drop p = numL i ++ rest) (hs : Stop L (p + (numL i).length)) :
    ∃ S', m_TextWalk_go_over_number A [.ref t] S = .ok (.int i) S' ∧ PS A S0 S' t L (p + (numL i).length) r q rs pl ∧ S'.length = S.length := by
  have hlen := congrArg List.length hL
  rw [List.length_drop, List.length_append] at hlen
  have hpos : 0 < (numL i).length := List.length_pos_iff.mpr (numL_ne i)
  have hat := (fld_tw h.tw).2.1
  have e1 := inc_ev h (Γ := [some (.ref t), some (.int p)]) rfl 1
  have h1 := h.at n (p + 1)
  have hg : ∀ k, L[p + k]? = (numL i ++ rest)[k]? := fun k => by rw [← hL, List.getElem?_drop]
  have cut : ∀ S, dSl true (.str (Sr' L)) (some (p : Int)) (some ((p + (numL i).length : Nat) : Int)) S = .ok (.str (Sr' (numL i))) S := fun S => by
    rw [cut_ev (by omega) (by omega) hl]
    have : p + (numL i).length - p = (numL i).length := by omega
    rw [this, hL, List.take_left]
  have ei := fun S => int_ev hi S
  by_cases h10 : i < 10
  · have hn : numL i = [48 + i] := numL_lt h10
    have hc : L[p]? = some (48 + i) := by
      have := hg 0
      rw [hn] at this
      simpa using this
    have ix := ix_str hc hl (S.set t (twO A L (p + 1) r q))
    have ex := (fld_tw h1.tw).1
    have ea := (fld_tw h1.tw).2.1
    have nx : isAt L (p + 1) "0123456789" = false := by
      rw [hn] at hs
      exact stop_not hs (by decide +kernel) (by decide +kernel)
    have nm := nextM A h1 hl (Γ := [some (.ref t), some (.int p)]) rfl "0123456789"
    rw [nx] at nm
    rw [hn] at cut
    refine ⟨S.set t (twO A L (p + 1) r q), ?_, by rw [hn]; exact h1, List.length_set ..⟩
    have hok : PyData.strOk (Sr' [48 + i]) = true := by
      unfold PyData.strOk
      simp
      omega
    have hne := dNe_str hok (by decide +kernel : PyData.strOk ("0" : Str) = true) (S.set t (twO A L (p + 1) r q))
    have s1 : sAsg (gN 1) (mUn (dFld (G_own_at A) ("own_at" : Str)) (mVar 0)) (enter 2 [.ref t]) S = .nx [some (.ref t), some (.int p)] S := by
      simp [sAsg, gN, mUn, mVar, enter, hat, Res.bind, Res.toS]
    have sc : mAnd (mT (mOp dNe (mOp dIx (mUn (dFld (G_own_text A) ("own_text" : Str)) (mVar 0)) (mVar 1)) (mC (.str ("0" : Str))))) (mT (mMeth (H_next_in A) ("next_in" : Str) 2 (m_TextWalk_next_in A) (mVar 0) (aCons (mC (.str ("0123456789" : Str))) aNil))) [some (.ref t), some (.int p)] (S.set t (twO A L (p + 1) r q)) = .ok false (S.set t (twO A L (p + 1) r q)) := by
      simp [mAnd, mT, mOp, mUn, mVar, ex, ix, hne, nm, Res.bind]
      split <;> rfl
    have s3 : sIf (mAnd (mT (mOp dNe (mOp dIx (mUn (dFld (G_own_text A) ("own_text" : Str)) (mVar 0)) (mVar 1)) (mC (.str ("0" : Str))))) (mT (mMeth (H_next_in A) ("next_in" : Str) 2 (m_TextWalk_next_in A) (mVar 0) (aCons (mC (.str ("0123456789" : Str))) aNil)))) (sFldG (G_own_at A) ("own_at" : Str) (fun i j => i + j) (mVar 0) (mC (.int 1))) sPass [some (.ref t), some (.int p)] (S.set t (twO A L (p + 1) r q)) = .nx [some (.ref t), some (.int p)] (S.set t (twO A L (p + 1) r q)) := by
      unfold sIf
      rw [sc]
      rfl
    refine runF_rt ((sSeq_nx s1).trans ((sSeq_nx e1).trans ((sSeq_nx s3).trans ?_)))
    have c1 := cut (S.set t (twO A L (p + 1) r q))
    simp only [List.length_singleton] at c1
    rw [← hn] at c1
    have i1 := ei (S.set t (twO A L (p + 1) r q))
    simp [sRet, mBlt, aCons, aNil, mSl, mUn, mVar, oSo, ex, ea, c1, i1, Res.bind, Res.toS] at c1 ⊢
  · have hn := num_two (by omega : 10 ≤ i) hi
    have hc : L[p]? = some (48 + i / 10) := by
      have := hg 0
      rw [hn] at this
      simpa using this
    have hc1 : L[p + 1]? = some (48 + i % 10) := by
      have := hg 1
      rw [hn] at this
      simpa using this
    have ix := ix_str hc hl (S.set t (twO A L (p + 1) r q))
    have ex := (fld_tw h1.tw).1
    have nx : isAt L (p + 1) "0123456789" = true := isAt_of hc1 (by
      rw [tl_fig]
      have : i % 10 < 10 := by omega
      generalize i % 10 = d at this
      match d, this with
      | 0, _ => decide
      | 1, _ => decide
      | 2, _ => decide
      | 3, _ => decide
      | 4, _ => decide
      | 5, _ => decide
      | 6, _ => decide
      | 7, _ => decide
      | 8, _ => decide
      | 9, _ => decide
      | d + 10, h => omega)
    have nm := nextM A h1 hl (Γ := [some (.ref t), some (.int p)]) rfl "0123456789"
    rw [nx] at nm
    have hok : PyData.strOk (Sr' [48 + i / 10]) = true := by
      unfold PyData.strOk
      simp
      omega
    have hz : ("0" : Str) = Sr' [48] := ext_tl (by decide +kernel)
    have hq : (Sr' [48 + i / 10] == ("0" : Str)) = false := by
      rw [hz, beq_eq_false_iff_ne]
      intro e
      have : tl (Sr' [48 + i / 10]) = tl (Sr' [48]) := congrArg tl e
      rw [tl_mk, tl_mk] at this
      injection this with this
      omega
    have hne := dNe_str hok (by decide +kernel : PyData.strOk ("0" : Str) = true) (S.set t (twO A L (p + 1) r q))
    rw [hq] at hne
    have e2 := inc_ev h1 (Γ := [some (.ref t), some (.int p)]) rfl 1
    have h2 := h1.at n (p + 1 + 1)
    have ex2 := (fld_tw h2.tw).1
    have ea2 := (fld_tw h2.tw).2.1
    have s1 : sAsg (gN 1) (mUn (dFld (G_own_at A) ("own_at" : Str)) (mVar 0)) (enter 2 [.ref t]) S = .nx [some (.ref t), some (.int p)] S := by
      simp [sAsg, gN, mUn, mVar, enter, hat, Res.bind, Res.toS]
    have sc : mAnd (mT (mOp dNe (mOp dIx (mUn (dFld (G_own_text A) ("own_text" : Str)) (mVar 0)) (mVar 1)) (mC (.str ("0" : Str))))) (mT (mMeth (H_next_in A) ("next_in" : Str) 2 (m_TextWalk_next_in A) (mVar 0) (aCons (mC (.str ("0123456789" : Str))) aNil))) [some (.ref t), some (.int p)] (S.set t (twO A L (p + 1) r q)) = .ok true (S.set t (twO A L (p + 1) r q)) := by
      simp [mAnd, mT, mOp, mUn, mVar, ex, ix, hne, nm, Res.bind]
    have s3 : sIf (mAnd (mT (mOp dNe (mOp dIx (mUn (dFld (G_own_text A) ("own_text" : Str)) (mVar 0)) (mVar 1)) (mC (.str ("0" : Str))))) (mT (mMeth (H_next_in A) ("next_in" : Str) 2 (m_TextWalk_next_in A) (mVar 0) (aCons (mC (.str ("0123456789" : Str))) aNil)))) (sFldG (G_own_at A) ("own_at" : Str) (fun i j => i + j) (mVar 0) (mC (.int 1))) sPass [some (.ref t), some (.int p)] (S.set t (twO A L (p + 1) r q)) = .nx [some (.ref t), some (.int p)] ((S.set t (twO A L (p + 1) r q)).set t (twO A L (p + 1 + 1) r q)) := by
      unfold sIf
      rw [sc]
      exact e2
    refine ⟨(S.set t (twO A L (p + 1) r q)).set t (twO A L (p + 1 + 1) r q), ?_, by rw [hn]; exact h2, by simp⟩
    refine runF_rt ((sSeq_nx s1).trans ((sSeq_nx e1).trans ((sSeq_nx s3).trans ?_)))
    generalize (S.set t (twO A L (p + 1) r q)).set t (twO A L (p + 1 + 1) r q) = S2 at *
    have c1 := cut S2
    have hn2 : (numL i).length = 2 := by rw [hn]; rfl
    rw [hn2] at c1
    have c1 : dSl true (.str (Sr' L)) (some (p : Int)) (some ((p + 1 + 1 : Nat) : Int)) S2 = .ok (.str (Sr' (numL i))) S2 := c1
    have i1 := ei S2
    simp [sRet, mBlt, aCons, aNil, mSl, mUn, mVar, oSo, ex2, ea2, Res.bind, Res.toS] at c1 ⊢
    simp [c1, i1]
end
end K68
end

section
set_option Elab.async false
set_option linter.all false
set_option maxRecDepth 100000
set_option maxHeartbeats 4000000
namespace K68
open PySem PySem.Spec PyProof.Rows L2 Fx TL
abbrev LET : Str := "abcdefghijklmnopqrstuvwxyz"
abbrev LEAD : Str := "123456789"
abbrev FIG : Str := "0123456789"
theorem name_parts {s : Str} (h : s ∈ names) : ∃ ls ds : List Nat, tl s = ls ++ ds ∧ 0 < ls.length ∧ ls.length ≤ 4 ∧ (∀ c ∈ ls, c ∈ tl LET) ∧ (ds = [] ∨ (∃ a, ds = [a] ∧ a ∈ tl LEAD ∧ a ∉ tl LET) ∨ ∃ a b, ds = [a, b] ∧ a ∈ tl LEAD ∧ a ∉ tl LET ∧ b ∈ tl FIG) := by
  simp only [names, List.mem_cons, List.not_mem_nil, or_false] at h
  rcases h with rfl | rfl | rfl | rfl | rfl | rfl | rfl
  · exact ⟨[97], [], by decide +kernel, by decide, by decide, by rw [tl_let]; decide, .inl rfl⟩
  · exact ⟨[98], [], by decide +kernel, by decide, by decide, by rw [tl_let]; decide, .inl rfl⟩
  · exact ⟨[97, 98], [], by decide +kernel, by decide, by decide, by rw [tl_let]; decide, .inl rfl⟩
  · exact ⟨[120], [49], by decide +kernel, by decide, by decide, by rw [tl_let]; decide, .inr (.inl ⟨49, rfl, by rw [tl_lead]; decide, by rw [tl_let]; decide⟩)⟩
  · exact ⟨[98], [49, 50], by decide +kernel, by decide, by decide, by rw [tl_let]; decide, .inr (.inr ⟨49, 50, rfl, by rw [tl_lead]; decide, by rw [tl_let]; decide, by rw [tl_fig]; decide⟩)⟩
  · exact ⟨[122, 122, 122, 122], [], by decide +kernel, by decide, by decide, by rw [tl_let]; decide, .inl rfl⟩
  · exact ⟨[113], [57, 57], by decide +kernel, by decide, by decide, by rw [tl_let]; decide, .inr (.inr ⟨57, 57, rfl, by rw [tl_lead]; decide, by rw [tl_let]; decide, by rw [tl_fig]; decide⟩)⟩
section
variable {A : Ads} {S0 S : Sto} {t : Nat} {L : List Nat} {p r q : Nat} {rs : List Rw} {pl : List Op}
abbrev nmC (A : Ads) : Bd := mAnd (mT (mOp dLt (mOp dSub (mUn (dFld (G_own_at A) ("own_at" : Str)) (mVar 0)) (mVar 1)) (mC (.int 4)))) (mT (mMeth (H_next_in A) ("next_in" : Str) 2 (m_TextWalk_next_in A) (mVar 0) (aCons (mC (.str ("abcdefghijklmnopqrstuvwxyz" : Str))) aNil)))
theorem nmC_ev (A : Ads) {j : Nat} (h : PS A S0 S t L (p + j) r q rs pl) (hl : L.length ≤ 100000) : nmC A [some (.ref t), some (.int p)] S = .ok (decide (j < 4) && isAt L (p + j) LET) S := by
  have ea := (fld_tw h.tw).2.1
  have nm := nextM A h hl (Γ := [some (.ref t), some (.int p)]) rfl LET
  have hd : (((p + j : Nat) : Int) - p < 4) ↔ j < 4 := by omega
  by_cases hj : j < 4
  · have : ((p + j : Nat) : Int) - p < 4 := hd.mpr hj
    simp only [nmC, mAnd, mT, mOp, mUn, mVar_ev (show ([some (D.ref t), some (D.int p)] : En)[0]? = some (some (.ref t)) from rfl), mVar_ev (show ([some (D.ref t), some (D.int p)] : En)[1]? = some (some (.int p)) from rfl), Res.bind_ok, ea, dII, mC_ev, decide_eq_true this, nm, decide_eq_true hj, Bool.true_and]
  · have : ¬ (((p + j : Nat) : Int) - p < 4) := fun z => hj (hd.mp z)
    simp only [nmC, mAnd, mT, mOp, mUn, mVar_ev (show ([some (D.ref t), some (D.int p)] : En)[0]? = some (some (.ref t)) from rfl), mVar_ev (show ([some (D.ref t), some (D.int p)] : En)[1]? = some (some (.int p)) from rfl), Res.bind_ok, ea, dII, mC_ev, decide_eq_false this, decide_eq_false hj, Bool.false_and]
theorem nm_loop (A : Ads) (n : Ne A) (hl : L.length ≤ 100000) {ls : List Nat} (h4 : ls.length ≤ 4) (hls : ∀ k c, ls[k]? = some c → L[p + k]? = some c ∧ c ∈ tl LET) (hst : ls.length < 4 → isAt L (p + ls.length) LET = false) : ∀ (N j : Nat) (S : Sto), PS A S0 S t L (p + j) r q rs pl → j ≤ ls.length → ls.length - j < N →
    ∃ S', whL (nmC A) (B_TextWalk_go_over_name_1 A) N [some (.ref t), some (.int p)] S = .nx [some (.ref t), some (.int p)] S' ∧ PS A S0 S' t L (p + ls.length) r q rs pl ∧ S'.length = S.length
  | 0, j, S, h, hj, hN => absurd hN (by omega)
  | N + 1, j, S, h, hj, hN => by
    unfold whL
    rw [nmC_ev A h hl]
    by_cases hjl : j < ls.length
    · have hc := hls j ls[j] (List.getElem?_eq_getElem hjl)
      have e1 : isAt L (p + j) LET = true := isAt_of hc.1 hc.2
      have e2 : decide (j < 4) = true := decide_eq_true (by omega)
      have e3 := inc_ev h (Γ := [some (.ref t), some (.int p)]) rfl 1
      obtain ⟨S', e4, h2, h3⟩ := nm_loop A n hl h4 hls hst N (j + 1) _ (h.at n (p + j + 1)) (by omega) (by omega)
      refine ⟨S', ?_, h2, by simpa using h3⟩
      rw [e1, e2]
      show (match B_TextWalk_go_over_name_1 A [some (.ref t), some (.int p)] S with | .nx Γ2 S2 => whL (nmC A) (B_TextWalk_go_over_name_1 A) N Γ2 S2 | .ct Γ2 S2 => whL (nmC A) (B_TextWalk_go_over_name_1 A) N Γ2 S2 | .bk Γ2 S2 => .nx Γ2 S2 | r => r) = _
      have e5 : B_TextWalk_go_over_name_1 A [some (.ref t), some (.int p)] S = .nx [some (.ref t), some (.int p)] (S.set t (twO A L (p + j + 1) r q)) := e3
      rw [e5]
      exact e4
    · have hj2 : j = ls.length := by omega
      subst hj2
      have e1 : (decide (ls.length < 4) && isAt L (p + ls.length) LET) = false := by
        by_cases h : ls.length < 4
        · rw [hst h, Bool.and_false]
        · rw [decide_eq_false h, Bool.false_and]
      rw [e1]
      exact ⟨S, rfl, h, rfl⟩

theorem sIf_t {c : Bd} {a b : Sd} {Γ : En} {S S1 : Sto} (h : c Γ S = .ok true S1) : sIf c a b Γ S = a Γ S1 := by
  simp [sIf, h, Res.toS]
theorem sIf_f {c : Bd} {a b : Sd} {Γ : En} {S S1 : Sto} (h : c Γ S = .ok false S1) : sIf c a b Γ S = b Γ S1 := by
  simp [sIf, h, Res.toS]
theorem mT_ok {a : Ed} {Γ : En} {S S1 : Sto} {b : Bool} (h : a Γ S = .ok (.bl b) S1) : mT a Γ S = .ok b S1 := by
  simp [mT, h, Res.bind]
theorem name_ev (A : Ads) (n : Ne A) (h : PS A S0 S t L p r q rs pl) (hl : L.length ≤ 100000) {s : Str} (hs : s ∈ names) {rest : List Nat} (hL : L.drop p = tl s ++ rest) (hst : Stop L (p + (tl s).length)) :
    ∃ S', m_TextWalk_go_over_name A [.ref t] S = .ok (.str s) S' ∧ PS A S0 S' t L (p + (tl s).length) r q rs pl ∧ S'.length = S.length := by
  obtain ⟨ls, ds, he, h1, h4, hls, hds⟩ := name_parts hs
  have hg : ∀ k, L[p + k]? = (ls ++ (ds ++ rest))[k]? := fun k => by rw [← List.append_assoc, ← he, ← hL, List.getElem?_drop]
  have hlen := congrArg List.length hL
  rw [List.length_drop, List.length_append, he, List.length_append] at hlen
  have hat := (fld_tw h.tw).2.1
  have hlsL : ∀ k c, ls[k]? = some c → L[p + k]? = some c ∧ c ∈ tl LET := fun k c hk => by
    refine ⟨?_, hls c (List.mem_of_getElem? hk)⟩
    rw [hg, List.getElem?_append_left (get_lt hk)]
    exact hk
  have hg2 : ∀ k, L[p + ls.length + k]? = (ds ++ rest)[k]? := fun k => by
    rw [Nat.add_assoc, hg, List.getElem?_append_right (by omega)]
    congr 1 <;> omega
  have hnl : isAt L (p + ls.length) LET = false := by
    rcases hds with rfl | ⟨a, rfl, ha, hb⟩ | ⟨a, b, rfl, ha, hb, hc⟩
    · rw [he, List.append_nil] at hst
      exact stop_not hst (by rw [tl_let]; decide) (by rw [tl_let]; decide)
    · exact isAt_no (c := a) (by have := hg2 0; simpa using this) hb
    · exact isAt_no (c := a) (by have := hg2 0; simpa using this) hb
  obtain ⟨S1, e1, hp1, hl1⟩ := nm_loop A n hl h4 hlsL (fun _ => hnl) big 0 S h (Nat.zero_le _) (by have : big = 1000000 := rfl; omega)
  have s1 : sAsg (gN 1) (mUn (dFld (G_own_at A) ("own_at" : Str)) (mVar 0)) (enter 2 [.ref t]) S = .nx [some (.ref t), some (.int p)] S := by
    simp [sAsg, gN, mUn, mVar, enter, hat, Res.bind, Res.toS]
  have s2 : sWhile big (nmC A) (B_TextWalk_go_over_name_1 A) [some (.ref t), some (.int p)] S = .nx [some (.ref t), some (.int p)] S1 := e1
  have nm1 := mT_ok (nextM A hp1 hl (Γ := [some (.ref t), some (.int p)]) rfl LEAD)
  have fin : ∀ S2 : Sto, PS A S0 S2 t L (p + (tl s).length) r q rs pl → sRet (mSl true (mUn (dFld (G_own_text A) ("own_text" : Str)) (mVar 0)) (oSo (mVar 1)) (oSo (mUn (dFld (G_own_at A) ("own_at" : Str)) (mVar 0)))) [some (.ref t), some (.int p)] S2 = .rt (.str s) S2 := fun S2 h2 => by
    have ex := (fld_tw h2.tw).1
    have ea := (fld_tw h2.tw).2.1
    have c1 : dSl true (.str (Sr' L)) (some (p : Int)) (some ((p + (tl s).length : Nat) : Int)) S2 = .ok (.str s) S2 := by
      rw [cut_ev (by omega) (by rw [he, List.length_append]; omega) hl]
      have : p + (tl s).length - p = (tl s).length := by omega
      rw [this, hL, List.take_left]
    generalize (((p + (tl s).length : Nat) : Int)) = pe at *
    simp [sRet, mSl, mUn, mVar, oSo, ex, ea, c1, Res.bind, Res.toS]
  have body : ∃ S2, sIf (mT (mMeth (H_next_in A) ("next_in" : Str) 2 (m_TextWalk_next_in A) (mVar 0) (aCons (mC (.str ("123456789" : Str))) aNil))) (sSeq (sFldG (G_own_at A) ("own_at" : Str) (fun i j => i + j) (mVar 0) (mC (.int 1))) (sIf (mT (mMeth (H_next_in A) ("next_in" : Str) 2 (m_TextWalk_next_in A) (mVar 0) (aCons (mC (.str ("0123456789" : Str))) aNil))) (sFldG (G_own_at A) ("own_at" : Str) (fun i j => i + j) (mVar 0) (mC (.int 1))) sPass)) sPass [some (.ref t), some (.int p)] S1 = .nx [some (.ref t), some (.int p)] S2 ∧ PS A S0 S2 t L (p + (tl s).length) r q rs pl ∧ S2.length = S1.length := by
    rcases hds with rfl | ⟨a, rfl, ha, hb⟩ | ⟨a, b, rfl, ha, hb, hc⟩
    · rw [he, List.append_nil] at hst ⊢
      have hf : isAt L (p + ls.length) LEAD = false := stop_not hst (by rw [tl_lead]; decide) (by rw [tl_lead]; decide)
      rw [hf] at nm1
      exact ⟨S1, sIf_f nm1, hp1, rfl⟩
    · have hf : isAt L (p + ls.length) LEAD = true := isAt_of (c := a) (by have := hg2 0; simpa using this) ha
      rw [hf] at nm1
      have i1 := inc_ev hp1 (Γ := [some (.ref t), some (.int p)]) rfl 1
      have h2 := hp1.at n (p + ls.length + 1)
      have nm2 := mT_ok (nextM A h2 hl (Γ := [some (.ref t), some (.int p)]) rfl FIG)
      have hx : p + (tl s).length = p + ls.length + 1 := by rw [he, List.length_append]; rfl
      rw [hx] at hst ⊢
      have hf2 : isAt L (p + ls.length + 1) FIG = false := stop_not hst (by rw [tl_fig]; decide) (by rw [tl_fig]; decide)
      rw [hf2] at nm2
      exact ⟨_, (sIf_t nm1).trans ((sSeq_nx i1).trans (sIf_f nm2)), h2, by simp⟩
    · have hf : isAt L (p + ls.length) LEAD = true := isAt_of (c := a) (by have := hg2 0; simpa using this) ha
      rw [hf] at nm1
      have i1 := inc_ev hp1 (Γ := [some (.ref t), some (.int p)]) rfl 1
      have h2 := hp1.at n (p + ls.length + 1)
      have nm2 := mT_ok (nextM A h2 hl (Γ := [some (.ref t), some (.int p)]) rfl FIG)
      have hf2 : isAt L (p + ls.length + 1) FIG = true := isAt_of (c := b) (by have := hg2 1; simpa [Nat.add_assoc] using this) hc
      rw [hf2] at nm2
      have i2 := inc_ev h2 (Γ := [some (.ref t), some (.int p)]) rfl 1
      have h3 := h2.at n (p + ls.length + 1 + 1)
      have hx : p + (tl s).length = p + ls.length + 1 + 1 := by rw [he, List.length_append]; rfl
      rw [hx]
      exact ⟨_, (sIf_t nm1).trans ((sSeq_nx i1).trans ((sIf_t nm2).trans i2)), h3, by simp⟩
  obtain ⟨S2, e2, hp2, hl2⟩ := body
  exact ⟨S2, runF_rt ((sSeq_nx s1).trans ((sSeq_nx s2).trans ((sSeq_nx e2).trans (fin S2 hp2)))), hp2, by omega⟩
end
end K68
end

section
set_option Elab.async false
set_option linter.all false
set_option maxRecDepth 100000
set_option maxHeartbeats 4000000
namespace K68
open PySem PySem.Spec PyProof.Rows L2 Fx TL
theorem meth_ok' {H : Addr → Bool} {m : Str} {n t : Nat} {fn : Fn} {a : Ed} {b : Ad} {Γ : En} {S S1 : Sto} {C : Addr} {fs : List (Str × D)} {ds : List D} {r : Res D} (ha : a Γ S = .ok (.ref t) S) (h : S[t]? = some (.ins C fs)) (hG : H C = true) (hl : fs.lookup m = none) (hb : b Γ S = .ok ds S1) (hn : ds.length + 1 = n) (hr : fn (.ref t :: ds) S1 = r) : mMeth H m n fn a b Γ S = r := by
  simp [mMeth, dMeth, ha, h, hG, hl, hb, arg, hn, hr, Res.bind]
theorem sSeq_rt {a b : Sd} {Γ : En} {S S1 : Sto} {d : D} (h : a Γ S = .rt d S1) : sSeq a b Γ S = .rt d S1 := by
  simp [sSeq, h]
theorem sAsg_ok {i : Nat} {a : Ed} {Γ : En} {S S1 : Sto} {d : D} (h : a Γ S = .ok d S1) : sAsg (gN i) a Γ S = .nx (Γ.set i (some d)) S1 := by
  simp [sAsg, h, gN, Res.toS]
def leafK : It → Str
  | .num _ => "number"
  | .lost => "lost"
  | _ => "use"
def leafV : It → D
  | .num i => .int i
  | .use s => .str s
  | _ => .non
def isLeaf : It → Bool
  | .num _ => true
  | .lost => true
  | .use _ => true
  | _ => false
theorem leaf_sign {d : Nat} {x : It} (g : Good d x) (hx : isLeaf x = true) : ∃ c l, wl x = c :: l ∧ (match x with | .num _ => c ∈ tl FIG | .use _ => c ∈ tl LET ∧ c ∉ tl FIG | _ => c = 63) := by
  cases x with
  | num i =>
    have hi : i < 100 := by cases d <;> exact g
    have hne := numL_ne i
    cases e : numL i with
    | nil => exact absurd e hne
    | cons c l =>
      refine ⟨c, l, e, ?_⟩
      have hd := numL_digits i c (by rw [e]; exact List.mem_cons_self ..)
      show c ∈ tl FIG
      rw [tl_fig]
      have h1 : 48 ≤ c := hd.1
      have h2 : c ≤ 57 := hd.2
      obtain ⟨k, rfl⟩ : ∃ k, c = 48 + k := ⟨c - 48, by omega⟩
      have : k < 10 := by omega
      match k, this with
      | 0, _ => decide
      | 1, _ => decide
      | 2, _ => decide
      | 3, _ => decide
      | 4, _ => decide
      | 5, _ => decide
      | 6, _ => decide
      | 7, _ => decide
      | 8, _ => decide
      | 9, _ => decide
      | k + 10, h => omega
  | lost => exact ⟨63, [], rfl, rfl⟩
  | use s =>
    have hs : s ∈ names := by cases d <;> exact g
    obtain ⟨ls, ds, he, h1, h4, hls, hds⟩ := name_parts hs
    cases ls with
    | nil => exact absurd h1 (by decide)
    | cons c l =>
      refine ⟨c, l ++ ds, by rw [wl, he]; rfl, ?_⟩
      have hc := hls c (List.mem_cons_self ..)
      refine ⟨hc, ?_⟩
      rw [tl_let] at hc
      rw [tl_fig]
      intro hf
      simp only [List.mem_cons, List.not_mem_nil, or_false] at hc hf
      omega
  | grp k xs => cases hx
  | lt s xs => cases hx
section
variable {A : Ads} {S0 S : Sto} {t : Nat} {L : List Nat} {p r q : Nat} {rs : List Rw} {pl : List Op} {o : Op}
theorem small_no (A : Ads) (h : PS A S0 S t L p r q rs pl) (hl : L.length ≤ 100000) (h1 : isAt L p FIG = false) (h2 : isAt L p LET = false) (h3 : isAt L p "?" = false) : m_TextWalk_small_item A [.ref t] S = .ok .non S := by
  have hat := (fld_tw h.tw).2.1
  have s1 : sAsg (gN 1) (mUn (dFld (G_own_at A) ("own_at" : Str)) (mVar 0)) (enter 3 [.ref t]) S = .nx [some (.ref t), some (.int p), none] S := by
    simp [sAsg, gN, mUn, mVar, enter, hat, Res.bind, Res.toS]
  have n1 := mT_ok (nextM A h hl (Γ := [some (.ref t), some (.int p), none]) rfl FIG)
  have n2 := mT_ok (nextM A h hl (Γ := [some (.ref t), some (.int p), none]) rfl LET)
  have n3 := mT_ok (nextM A h hl (Γ := [some (.ref t), some (.int p), none]) rfl "?")
  rw [h1] at n1
  rw [h2] at n2
  rw [h3] at n3
  exact runF_rt ((sSeq_nx s1).trans (sSeq_rt ((sIf_f n1).trans ((sIf_f n2).trans ((sIf_f n3).trans rfl)))))
/-- a row's end -/
theorem behind_ev (A : Ads) (n : Ne A) {x : Rw} (h : PS A S0 S t L p r q (rs ++ [x]) pl) {Γ : En} (h0 : Γ[0]? = some (some (.ref t))) (h2 : Γ[2]? = some (some (.ref x.i))) :
    ∃ S', sFldA (G_own_behind A) ("own_behind" : Str) (mVar 2) (mUn (dFld (G_own_at A) ("own_at" : Str)) (mVar 0)) Γ S = .nx Γ S' ∧ PS A S0 S' t L p r q (rs ++ [⟨x.i, x.path, x.first, p, x.kind, x.val⟩]) pl ∧ S'.length = S.length := by
  have hat := (fld_tw h.tw).2.1
  have hx := h.ro x (by simp)
  have he : mUn (dFld (G_own_at A) ("own_at" : Str)) (mVar 0) Γ S = .ok (.int p) S := by
    simp [mUn, mVar_ev h0, hat, Res.bind]
  exact ⟨_, fldA_ok he (mVar_ev h2) hx (gi_own_behind A) (by simp) (pt_ir_own_behind ..), h.row n (b := []) ⟨x.i, x.path, x.first, p, x.kind, x.val⟩ rfl, by simp⟩
theorem small_ev (A : Ads) (n : Ne A) (h : PS A S0 S t L p r q rs (pl ++ [o])) (hl : L.length ≤ 100000) (hp : o.path.length ≤ 100) (hr : rs.length ≤ 10000) {d : Nat} {x : It} (g : Good d x) (hx : isLeaf x = true) {rest : List Nat} (hL : L.drop p = wl x ++ rest) (hst : Stop L (p + (wl x).length)) :
    ∃ i S', m_TextWalk_small_item A [.ref t] S = .ok (.ref i) S' ∧ PS A S0 S' t L (p + (wl x).length) r q (rs ++ [⟨i, o.path ++ [o.many], p, p + (wl x).length, leafK x, leafV x⟩]) (pl ++ [⟨o.i, o.path, o.row, o.many + 1⟩]) := by
  have hat := (fld_tw h.tw).2.1
  have s1 : sAsg (gN 1) (mUn (dFld (G_own_at A) ("own_at" : Str)) (mVar 0)) (enter 3 [.ref t]) S = .nx [some (.ref t), some (.int p), none] S := by
    simp [sAsg, gN, mUn, mVar, enter, hat, Res.bind, Res.toS]
  have n1 := mT_ok (nextM A h hl (Γ := [some (.ref t), some (.int p), none]) rfl FIG)
  have n2 := mT_ok (nextM A h hl (Γ := [some (.ref t), some (.int p), none]) rfl LET)
  have n3 := mT_ok (nextM A h hl (Γ := [some (.ref t), some (.int p), none]) rfl "?")
  obtain ⟨c, l, hc, hcc⟩ := leaf_sign g hx
  have hLp : L[p]? = some c := by
    have : (L.drop p)[0]? = some c := by rw [hL, hc]; rfl
    simpa using this
  -- the end, common to all
  have fin : ∀ {i : Nat} {S2 : Sto} {k : Str} {v : D}, PS A S0 S2 t L (p + (wl x).length) r q (rs ++ [⟨i, o.path ++ [o.many], p, p, k, v⟩]) (pl ++ [⟨o.i, o.path, o.row, o.many + 1⟩]) → ∃ S', sSeq (sFldA (G_own_behind A) ("own_behind" : Str) (mVar 2) (mUn (dFld (G_own_at A) ("own_at" : Str)) (mVar 0))) (sRet (mVar 2)) [some (.ref t), some (.int p), some (.ref i)] S2 = .rt (.ref i) S' ∧ PS A S0 S' t L (p + (wl x).length) r q (rs ++ [⟨i, o.path ++ [o.many], p, p + (wl x).length, k, v⟩]) (pl ++ [⟨o.i, o.path, o.row, o.many + 1⟩]) := fun {i S2 k v} h2 => by
    obtain ⟨S', e1, e2, e3⟩ := behind_ev A n h2 (Γ := [some (.ref t), some (.int p), some (.ref i)]) rfl rfl
    exact ⟨S', (sSeq_nx e1).trans (by simp [sRet, mVar, Res.toS]), e2⟩
  cases x with
  | num i =>
    have hi : i < 100 := by cases d <;> exact g
    have hf : isAt L p FIG = true := isAt_of hLp hcc
    rw [hf] at n1
    obtain ⟨S1, e1, h1, hl1⟩ := num_ev A n h hl hi hL hst
    obtain ⟨S2, e2, h2, _⟩ := new_ev A n h1 hp hr p "number" (.int i)
    obtain ⟨S3, e3, h3⟩ := fin h2
    have eg := meth_ok (n := 1) (b := aNil) (mVar_ev (show ([some (.ref t), some (.int p), none] : En)[0]? = some (some (.ref t)) from rfl)) h.tw (h_go_over_number A) (lk_tw_go_over_number ..) rfl rfl e1
    have en : mMeth (H_new_row A) ("new_row" : Str) 4 (m_TextWalk_new_row A) (mVar 0) (aCons (mVar 1) (aCons (mC (.str ("number" : Str))) (aCons (mMeth (H_go_over_number A) ("go_over_number" : Str) 1 (m_TextWalk_go_over_number A) (mVar 0) aNil) aNil))) [some (.ref t), some (.int p), none] S = .ok (.ref S1.length) S2 :=
      meth_ok' (S1 := S1) (ds := [.int p, .str "number", .int i]) (mVar_ev rfl) h.tw (h_new_row A) (lk_tw_new_row ..) (by simp [aCons, aNil, mVar, eg, Res.bind]) rfl e2
    exact ⟨S1.length, S3, runF_rt ((sSeq_nx s1).trans ((sSeq_nx ((sIf_t n1).trans (sAsg_ok en))).trans e3)), h3⟩
  | lost =>
    have hcc : c = 63 := hcc
    subst hcc
    have hf1 : isAt L p FIG = false := isAt_no hLp (by rw [tl_fig]; decide)
    have hf2 : isAt L p LET = false := isAt_no hLp (by rw [tl_let]; decide)
    have hf3 : isAt L p "?" = true := isAt_of hLp (by decide +kernel)
    rw [hf1] at n1
    rw [hf2] at n2
    rw [hf3] at n3
    have i1 := inc_ev h (Γ := [some (.ref t), some (.int p), none]) rfl 1
    have h1 := h.at n (p + 1)
    obtain ⟨S2, e2, h2, _⟩ := new_ev A n h1 hp hr p "lost" .non
    obtain ⟨S3, e3, h3⟩ := fin h2
    have en : mMeth (H_new_row A) ("new_row" : Str) 4 (m_TextWalk_new_row A) (mVar 0) (aCons (mVar 1) (aCons (mC (.str ("lost" : Str))) (aCons (mC .non) aNil))) [some (.ref t), some (.int p), none] (S.set t (twO A L (p + 1) r q)) = .ok (.ref (S.set t (twO A L (p + 1) r q)).length) S2 :=
      meth_ok' (S1 := S.set t (twO A L (p + 1) r q)) (ds := [.int p, .str "lost", .non]) (mVar_ev rfl) h1.tw (h_new_row A) (lk_tw_new_row ..) (by simp [aCons, aNil, mVar, Res.bind]) rfl e2
    exact ⟨_, S3, runF_rt ((sSeq_nx s1).trans ((sSeq_nx ((sIf_f n1).trans ((sIf_f n2).trans ((sIf_t n3).trans ((sSeq_nx i1).trans (sAsg_ok en)))))).trans e3)), h3⟩
  | use s =>
    have hs : s ∈ names := by cases d <;> exact g
    have hf1 : isAt L p FIG = false := isAt_no hLp hcc.2
    have hf2 : isAt L p LET = true := isAt_of hLp hcc.1
    rw [hf1] at n1
    rw [hf2] at n2
    obtain ⟨S1, e1, h1, hl1⟩ := name_ev A n h hl hs hL hst
    obtain ⟨S2, e2, h2, _⟩ := new_ev A n h1 hp hr p "use" (.str s)
    obtain ⟨S3, e3, h3⟩ := fin h2
    have eg := meth_ok (n := 1) (b := aNil) (mVar_ev (show ([some (.ref t), some (.int p), none] : En)[0]? = some (some (.ref t)) from rfl)) h.tw (h_go_over_name A) (lk_tw_go_over_name ..) rfl rfl e1
    have en : mMeth (H_new_row A) ("new_row" : Str) 4 (m_TextWalk_new_row A) (mVar 0) (aCons (mVar 1) (aCons (mC (.str ("use" : Str))) (aCons (mMeth (H_go_over_name A) ("go_over_name" : Str) 1 (m_TextWalk_go_over_name A) (mVar 0) aNil) aNil))) [some (.ref t), some (.int p), none] S = .ok (.ref S1.length) S2 :=
      meth_ok' (S1 := S1) (ds := [.int p, .str "use", .str s]) (mVar_ev rfl) h.tw (h_new_row A) (lk_tw_new_row ..) (by simp [aCons, aNil, mVar, eg, Res.bind]) rfl e2
    exact ⟨S1.length, S3, runF_rt ((sSeq_nx s1).trans ((sSeq_nx ((sIf_f n1).trans ((sIf_t n2).trans (sAsg_ok en)))).trans e3)), h3⟩
  | grp k xs => cases hx
  | lt s xs => cases hx
end
end K68
end

section
set_option Elab.async false
set_option linter.all false
set_option maxRecDepth 100000
set_option maxHeartbeats 4000000
namespace K68
open PySem PySem.Spec PyProof.Rows L2 Fx TL
theorem append_ev' {o e : Ed} {Γ : En} {S S1 : Sto} {m : Nat} {acc0 acc : List D} {y : D} (ho : o Γ S = .ok (.ref m) S) (hS0 : S[m]? = some (.lst acc0)) (he : e Γ S = .ok y S1) (hS : S1[m]? = some (.lst acc)) (hl : acc.length ≤ 100000) : mAppend o e Γ S = .ok .non (S1.set m (.lst (acc ++ [y]))) := by
  have hb : big = 1000000 := rfl
  have hz : acc.length < big := by omega
  simp [mAppend, ho, isM, hS0, he, hS, hz, Res.bind]
theorem oi_make (A : Ads) {S : Sto} (p : List Nat) (row : D) : m_OpenItem___init__ A [.ref S.length, pathD p, row] (S ++ [.ins A.C_OpenItem []]) = .ok .non (S ++ [.ins A.C_OpenItem (oiF p row 0)]) := by
  have g : (S ++ [O.ins A.C_OpenItem []])[S.length]? = some (.ins A.C_OpenItem []) := by simp
  simp [m_OpenItem___init__, runF, enter, sSeq, sFldA, mVar, go_own_path, go_own_row, go_own_many, putD, kn_own_path_own_row, kn_own_path_own_many, kn_own_row_own_many, Res.toS, Res.bind, List.set_append_right]
section
variable {A : Ads} {S0 S : Sto} {t : Nat} {L : List Nat} {p r q : Nat} {rs : List Rw} {pl : List Op} {o : Op}
/-- what begin_item does behind the opening sign -/
abbrev opR (A : Ads) (rec : Fn) : Sd := sIf (mT (mMeth (H_next_in A) ("next_in" : Str) 2 (m_TextWalk_next_in A) (mVar 0) (aCons (mC (.str ("+*" : Str))) aNil))) (sSeq (sFldA (G_own_kind A) ("own_kind" : Str) (mVar 1) (mOp (dKd A.g_SIGNED_KINDS t_SIGNED_KINDS) (mC (.adr A.g_SIGNED_KINDS)) (mOp dIx (mUn (dFld (G_own_text A) ("own_text" : Str)) (mVar 0)) (mUn (dFld (G_own_at A) ("own_at" : Str)) (mVar 0))))) (sFldG (G_own_at A) ("own_at" : Str) (fun i j => i + j) (mVar 0) (mC (.int 1)))) (sIf (mNot (mT (mMeth (H_next_in A) ("next_in" : Str) 2 (m_TextWalk_next_in A) (mVar 0) (aCons (mC (.str (")" : Str))) aNil)))) (sDrop (mMeth (H_begin_first A) ("begin_first" : Str) 1 (m_TextWalk_begin_first A rec) (mVar 0) aNil)) sPass)
theorem smallM (A : Ads) (h : PS A S0 S t L p r q rs pl) {Γ : En} (hΓ : Γ[0]? = some (some (.ref t))) {res : Res D} (e : m_TextWalk_small_item A [.ref t] S = res) : mMeth (H_small_item A) ("small_item" : Str) 1 (m_TextWalk_small_item A) (mVar 0) aNil Γ S = res :=
  meth_ok (n := 1) (b := aNil) (mVar_ev hΓ) h.tw (h_small_item A) (lk_tw_small_item ..) (aNil_ev _ _) rfl e
theorem mNot_ok {a : Bd} {Γ : En} {S S1 : Sto} {b : Bool} (h : a Γ S = .ok b S1) : mNot a Γ S = .ok (!b) S1 := by
  simp [mNot, h, Res.bind]
/-- a new open item on the pile -/
theorem PS.push (h : PS A S0 S t L p r q rs pl) (path : List Nat) (row : D) : PS A S0 ((S ++ [O.ins A.C_OpenItem (oiF path row 0)]).set q (.lst (pl.map (fun x => D.ref x.i) ++ [.ref S.length]))) t L p r q rs (pl ++ [⟨S.length, path, row, 0⟩]) := by
  have h1 := h.app (.ins A.C_OpenItem (oiF path row 0))
  have hnew : (S ++ [O.ins A.C_OpenItem (oiF path row 0)])[S.length]? = some (.ins A.C_OpenItem (oiF path row 0)) := by simp
  have h2 := h1.pile (pl ++ [⟨S.length, path, row, 0⟩]) (fun x hx => by
      rcases List.mem_append.mp hx with hx | hx
      · exact h1.po x hx
      · rw [List.mem_singleton.mp hx]
        exact hnew) (by
      rw [List.map_append, List.nodup_append]
      refine ⟨h.ndp, by simp, fun a ha b hb e => ?_⟩
      obtain ⟨x, hx, rfl⟩ := List.mem_map.mp ha
      have hb : b = S.length := by simpa using hb
      have := get_lt (h.po x hx)
      omega) (fun x hx => by
      rcases List.mem_append.mp hx with hx | hx
      · exact h.gpl x hx
      · rw [List.mem_singleton.mp hx]
        exact h.base.length_le)
  simpa using h2
theorem open_ev (A : Ads) (n : Ne A) (h : PS A S0 S t L p r q rs (pl ++ [o])) (hl : L.length ≤ 100000) (hp : o.path.length ≤ 100) (hr : rs.length ≤ 10000) (hpl : pl.length ≤ 1000) (hc : L[p]? = some 40) (rec : Fn) :
    ∃ i S5, b_TextWalk_begin_item A rec [some (.ref t), none] S = opR A rec [some (.ref t), some (.ref i)] S5 ∧ ∃ j, PS A S0 S5 t L (p + 1) r q (rs ++ [⟨i, o.path ++ [o.many], p, p, "block", .non⟩]) ((pl ++ [⟨o.i, o.path, o.row, o.many + 1⟩]) ++ [⟨j, o.path ++ [o.many], .ref i, 0⟩]) := by
  have hat := (fld_tw h.tw).2.1
  have sm := smallM A h (Γ := [some (.ref t), none]) rfl (small_no A h hl (isAt_no hc (by rw [tl_fig]; decide)) (isAt_no hc (by rw [tl_let]; decide)) (isAt_no hc (by decide +kernel)))
  have c1 : mT (mOp (dIs true) (mMeth (H_small_item A) ("small_item" : Str) 1 (m_TextWalk_small_item A) (mVar 0) aNil) (mC .non)) [some (.ref t), none] S = .ok false S := by
    simp [mT, mOp, sm, dIs, Fx.isNon, Res.bind]
  have n1 := mT_ok (nextM A h hl (Γ := [some (.ref t), none]) rfl "(")
  rw [isAt_of hc (by decide +kernel)] at n1
  have c2 := mNot_ok n1
  obtain ⟨S3, e3, h3, hl3⟩ := new_ev A n h hp hr p "block" .non
  have en : mMeth (H_new_row A) ("new_row" : Str) 4 (m_TextWalk_new_row A) (mVar 0) (aCons (mUn (dFld (G_own_at A) ("own_at" : Str)) (mVar 0)) (aCons (mC (.str ("block" : Str))) (aCons (mC .non) aNil))) [some (.ref t), none] S = .ok (.ref S.length) S3 :=
    meth_ok' (S1 := S) (ds := [.int p, .str "block", .non]) (mVar_ev rfl) h.tw (h_new_row A) (lk_tw_new_row ..) (by simp [aCons, aNil, mUn, mVar, hat, Res.bind]) rfl e3
  have s3 := sAsg_ok (i := 1) en
  have s4 := inc_ev h3 (Γ := [some (.ref t), some (.ref S.length)]) rfl 1
  have h4 := h3.at n (p + 1)
  have hrow := h4.ro ⟨S.length, o.path ++ [o.many], p, p, "block", .non⟩ (by simp)
  have hpp := (fld_tw h4.tw).2.2.2
  have f1 := dFld_ok hrow (gi_own_path A) (lk_ir_own_path ..)
  have h5 := h4.push (o.path ++ [o.many]) (.ref S.length)
  generalize hS4 : S3.set t (twO A L (p + 1) r q) = S4 at *
  have em : mMake A.C_OpenItem 3 (m_OpenItem___init__ A) (aCons (mUn (dFld (G_own_path A) ("own_path" : Str)) (mVar 1)) (aCons (mVar 1) aNil)) [some (.ref t), some (.ref S.length)] S4 = .ok (.ref S4.length) (S4 ++ [.ins A.C_OpenItem (oiF (o.path ++ [o.many]) (.ref S.length) 0)]) := by
    simp [mMake, aCons, aNil, mUn, mVar, f1, arg, oi_make, Res.bind]
  have eo : mUn (dFld (G_own_pile A) ("own_pile" : Str)) (mVar 0) [some (.ref t), some (.ref S.length)] S4 = .ok (.ref q) S4 := by
    simp [mUn, mVar, hpp, Res.bind]
  have s5 := sDrop_ok (append_ev' eo h4.pw em (app_get _ h4.pw) (by simp; omega))
  refine ⟨S.length, _, ?_, S4.length, h5⟩
  exact (sSeq_nx ((sIf_f c1).trans rfl)).trans ((sSeq_nx ((sIf_f c2).trans rfl)).trans ((sSeq_nx s3).trans ((sSeq_nx s4).trans ((sSeq_nx s5).trans rfl))))
end
end K68
end

section
set_option Elab.async false
set_option linter.all false
set_option maxRecDepth 100000
set_option maxHeartbeats 4000000
namespace K68
open PySem PySem.Spec PyProof.Rows L2 Fx TL
/-- k turns of the loop lead from S to S' -/
def Go (A : Ads) (t k : Nat) (S S' : Sto) : Prop := ∀ N, whL (mT (mVar 1)) (B_TextWalk_walked_rows_1 A) (k + N) [some (.ref t), some (.bl true)] S = whL (mT (mVar 1)) (B_TextWalk_walked_rows_1 A) N [some (.ref t), some (.bl true)] S'
theorem Go.zero {A : Ads} {t : Nat} {S : Sto} : Go A t 0 S S := fun N => by rw [Nat.zero_add]
theorem Go.trans {A : Ads} {t j k : Nat} {S S1 S2 : Sto} (a : Go A t j S S1) (b : Go A t k S1 S2) : Go A t (j + k) S S2 := fun N => by
  rw [Nat.add_assoc, a, b]
theorem runF_nx {b : Sd} {N : Nat} {ds : List D} {Γ : En} {S S' : Sto} (h : b (enter N ds) S = .nx Γ S') : runF N b ds S = .ok .non S' := by
  simp [runF, h]
theorem dEq_ii (i j : Int) (S : Sto) : dEqG false (.int i) (.int j) S = .ok (.bl (i == j)) S := dEq_int i j S
section
variable {A : Ads} {S0 S : Sto} {t : Nat} {L : List Nat} {p r q : Nat} {rs : List Rw} {pl : List Op} {o : Op}
theorem Go.one (A : Ads) (h : PS A S0 S t L p r q rs pl) {S' : Sto} (e : m_TextWalk_go_on A [.ref t] S = .ok (.bl true) S') : Go A t 1 S S' := fun N => by
  have em : mMeth (H_go_on A) ("go_on" : Str) 1 (m_TextWalk_go_on A) (mVar 0) aNil [some (.ref t), some (.bl true)] S = .ok (.bl true) S' :=
    meth_ok (n := 1) (b := aNil) (mVar_ev rfl) h.tw (h_go_on A) (lk_tw_go_on ..) (aNil_ev _ _) rfl e
  have eb : B_TextWalk_walked_rows_1 A [some (.ref t), some (.bl true)] S = .nx [some (.ref t), some (.bl true)] S' := sAsg_ok em
  have ec : mT (mVar 1) [some (.ref t), some (.bl true)] S = .ok true S := rfl
  rw [Nat.add_comm]
  show whL (mT (mVar 1)) (B_TextWalk_walked_rows_1 A) (N + 1) [some (.ref t), some (.bl true)] S = _
  rw [whL, ec]
  simp only [Res.toS, if_true, eb]
theorem len_ref {q : Nat} {S : Sto} {xs : List D} (h : S[q]? = some (.lst xs)) : fLen [.ref q] S = .ok (.int xs.length) S := by
  simp [fLen, dSq, dL, h]
/-- the loop does not end here -/
theorem go_c1 (A : Ads) (h : PS A S0 S t L p r q rs pl) (hl : L.length ≤ 100000) (hp : p < L.length) : mAnd (mT (mOp dEq (mUn (dFld (G_own_at A) ("own_at" : Str)) (mVar 0)) (mBlt fLen (aCons (mUn (dFld (G_own_text A) ("own_text" : Str)) (mVar 0)) aNil)))) (mT (mOp dEq (mBlt fLen (aCons (mUn (dFld (G_own_pile A) ("own_pile" : Str)) (mVar 0)) aNil)) (mC (.int 1)))) [some (.ref t)] S = .ok false S := by
  obtain ⟨e1, e2, e3, e4⟩ := fld_tw h.tw
  have el := len_str L S hl
  have hq : ((p : Int) == (L.length : Int)) = false := by rw [beq_eq_false_iff_ne]; omega
  simp [mAnd, mT, mOp, mUn, mVar, mBlt, aCons, aNil, e1, e2, el, hq, Res.bind]
theorem close_ev (A : Ads) (n : Ne A) {x : Rw} {rsi : List Rw} {c : Op} (h : PS A S0 S t L p r q (rs ++ x :: rsi) (pl ++ [c])) (hc : c.row = .ref x.i) : ∃ S', m_TextWalk_close_item A [.ref t] S = .ok .non S' ∧ PS A S0 S' t L (p + 1) r q (rs ++ ⟨x.i, x.path, x.first, p + 1, x.kind, x.val⟩ :: rsi) pl := by
  have s1 := inc_ev h (Γ := [some (.ref t)]) rfl 1
  have h1 := h.at n (p + 1)
  generalize S.set t (twO A L (p + 1) r q) = S1 at *
  obtain ⟨e1, e2, e3, e4⟩ := fld_tw h1.tw
  have hpw := h1.pw
  rw [List.map_append] at hpw
  have el := ix_last hpw
  have hco := h1.po c (by simp)
  have f1 := dFld_ok hco (go_own_row A) (lk_oi_own_row ..)
  rw [hc] at f1
  have hx := h1.ro x (by simp)
  have s2 : sFldA (G_own_behind A) ("own_behind" : Str) (mUn (dFld (G_own_row A) ("own_row" : Str)) (mOp dIx (mUn (dFld (G_own_pile A) ("own_pile" : Str)) (mVar 0)) (mUn dNeg (mC (.int 1))))) (mUn (dFld (G_own_at A) ("own_at" : Str)) (mVar 0)) [some (.ref t)] S1 = .nx [some (.ref t)] (S1.set x.i (Rw.o A ⟨x.i, x.path, x.first, p + 1, x.kind, x.val⟩)) :=
    fldA_ok (t := x.i) (d := .int (p + 1 : Nat)) (by simp [mUn, mVar, e2, Res.bind]) (by simp [mUn, mOp, mVar, e4, dNeg, el, f1, Res.bind]) hx (gi_own_behind A) (by simp) (pt_ir_own_behind ..)
  have h2 := h1.row n ⟨x.i, x.path, x.first, p + 1, x.kind, x.val⟩ rfl
  generalize S1.set x.i (Rw.o A ⟨x.i, x.path, x.first, p + 1, x.kind, x.val⟩) = S2 at *
  have e5 := (fld_tw h2.tw).2.2.2
  have h3 := h2.pile pl (fun y hy => h2.po y (by simp [hy])) (by
    have := h2.ndp
    rw [List.map_append] at this
    exact (List.nodup_append.mp this).1) (fun y hy => h2.gpl y (by simp [hy]))
  have hq2 := h2.pw
  have s3 : sDrop (mPop (mUn (dFld (G_own_pile A) ("own_pile" : Str)) (mVar 0))) [some (.ref t)] S2 = .nx [some (.ref t)] (S2.set q (.lst (pl.map fun x => D.ref x.i))) := by
    refine sDrop_ok (d := .ref c.i) ?_
    simp [mPop, mUn, mVar, e5, hq2, Res.bind]
  refine ⟨_, ?_, h3⟩
  exact runF_nx ((sSeq_nx s1).trans ((sSeq_nx s2).trans s3))
/-- ) in the loop -/
theorem turn_close (A : Ads) (n : Ne A) {x : Rw} {rsi : List Rw} {c : Op} (h : PS A S0 S t L p r q (rs ++ x :: rsi) ((pl ++ [o]) ++ [c])) (hl : L.length ≤ 100000) (hc : c.row = .ref x.i) (h41 : L[p]? = some 41) :
    ∃ S', Go A t 1 S S' ∧ PS A S0 S' t L (p + 1) r q (rs ++ ⟨x.i, x.path, x.first, p + 1, x.kind, x.val⟩ :: rsi) (pl ++ [o]) := by
  have c1 := go_c1 A h hl (get_lt h41)
  have n1 := mT_ok (nextM A h hl (Γ := [some (.ref t)]) rfl ")")
  rw [isAt_of h41 (by decide +kernel)] at n1
  have e4 := (fld_tw h.tw).2.2.2
  have el := len_ref h.pw
  obtain ⟨S', e, h'⟩ := close_ev A n h hc
  have c2 : mAnd (mT (mMeth (H_next_in A) ("next_in" : Str) 2 (m_TextWalk_next_in A) (mVar 0) (aCons (mC (.str (")" : Str))) aNil))) (mT (mOp dGt (mBlt fLen (aCons (mUn (dFld (G_own_pile A) ("own_pile" : Str)) (mVar 0)) aNil)) (mC (.int 1)))) [some (.ref t)] S = .ok true S := by
    have hlen : ((((pl ++ [o]) ++ [c]).map fun x => D.ref x.i).length : Int) > 1 := by simp; omega
    have hg : mT (mOp dGt (mBlt fLen (aCons (mUn (dFld (G_own_pile A) ("own_pile" : Str)) (mVar 0)) aNil)) (mC (.int 1))) [some (.ref t)] S = .ok true S := by
      simp only [mT, mOp, mBlt, aCons, aNil_ev, mUn, mVar_ev (show ([some (D.ref t)] : En)[0]? = some (some (.ref t)) from rfl), Res.bind_ok, e4, el, mC_ev, dII, decide_eq_true hlen]
    simp only [mAnd, n1, Res.bind_ok, hg]
  have em : mMeth (H_close_item A) ("close_item" : Str) 1 (m_TextWalk_close_item A) (mVar 0) aNil [some (.ref t)] S = .ok .non S' :=
    meth_ok (n := 1) (b := aNil) (mVar_ev rfl) h.tw (h_close_item A) (lk_tw_close_item ..) (aNil_ev _ _) rfl e
  refine ⟨S', Go.one A h ?_, h'⟩
  exact runF_rt ((sSeq_nx ((sIf_f c1).trans rfl)).trans ((sSeq_nx ((sIf_t c2).trans (sDrop_ok em))).trans rfl))
/-- a blank in the loop -/
theorem turn_blank (A : Ads) (n : Ne A) (h : PS A S0 S t L p r q rs pl) (hl : L.length ≤ 100000) (h32 : L[p]? = some 32) {S' : Sto} (hb : ∀ S1, PS A S0 S1 t L (p + 1) r q rs pl → S1 = S.set t (twO A L (p + 1) r q) → m_TextWalk_begin_item A 12 [.ref t] S1 = .ok .non S') : Go A t 1 S S' := by
  have c1 := go_c1 A h hl (get_lt h32)
  have n1 := mT_ok (nextM A h hl (Γ := [some (.ref t)]) rfl ")")
  rw [isAt_no h32 (by decide +kernel)] at n1
  have c2 : mAnd (mT (mMeth (H_next_in A) ("next_in" : Str) 2 (m_TextWalk_next_in A) (mVar 0) (aCons (mC (.str (")" : Str))) aNil))) (mT (mOp dGt (mBlt fLen (aCons (mUn (dFld (G_own_pile A) ("own_pile" : Str)) (mVar 0)) aNil)) (mC (.int 1)))) [some (.ref t)] S = .ok false S := by
    simp only [mAnd, n1, Res.bind_ok]
  have n2 := mT_ok (nextM A h hl (Γ := [some (.ref t)]) rfl " ")
  rw [isAt_of h32 (by decide +kernel)] at n2
  have s1 := inc_ev h (Γ := [some (.ref t)]) rfl 1
  have h1 := h.at n (p + 1)
  have e := hb _ h1 rfl
  have em : mMeth (H_begin_item A) ("begin_item" : Str) 1 (m_TextWalk_begin_item A 12) (mVar 0) aNil [some (.ref t)] (S.set t (twO A L (p + 1) r q)) = .ok .non S' :=
    meth_ok (n := 1) (b := aNil) (mVar_ev rfl) h1.tw (h_begin_item A) (lk_tw_begin_item ..) (aNil_ev _ _) rfl e
  refine Go.one A h ?_
  exact runF_rt ((sSeq_nx ((sIf_f c1).trans rfl)).trans ((sSeq_nx ((sIf_f c2).trans ((sIf_t n2).trans ((sSeq_nx s1).trans (sDrop_ok em))))).trans rfl))
end
end K68
end

section
set_option Elab.async false
set_option linter.all false
set_option maxRecDepth 100000
set_option maxHeartbeats 4000000
namespace K68
open PySem PySem.Spec PyProof.Rows L2 Fx TL
theorem cut_any {L : List Nat} {a b : Nat} (h1 : a ≤ L.length) (hl : L.length ≤ 100000) (S : Sto) : dSl true (.str (Sr' L)) (some (a : Int)) (some (b : Int)) S = .ok (.str (Sr' ((L.drop a).take (b - a)))) S := by
  have hb : big = 1000000 := rfl
  have hz : (Sr' L).length ≤ big := by rw [sr_len]; omega
  show (if (Sr' L).length ≤ big then Res.ok (D.str (cutS (Sr' L) (some (a : Int)) (some (b : Int)))) S else .bad) = _
  rw [if_pos hz]
  unfold cutS
  simp only [HT.sIx_nat, sr_len]
  rw [Nat.min_eq_left h1]
  have : List.take (min b L.length - a) (L.drop a) = List.take (b - a) (L.drop a) := by
    rw [List.take_eq_take_iff, List.length_drop]
    omega
  show Res.ok (D.str ⟨(List.take (min b L.length - a) (L.drop a)).toArray⟩) S = _
  rw [this]
theorem strOk_of {l : List Nat} (h : ∀ c ∈ l, c < 1114112) : PyData.strOk (Sr' l) = true := by
  unfold PyData.strOk
  simp only [Array.all_eq_true', List.mem_toArray]
  intro c hc
  exact decide_eq_true (h c hc)
section
variable {A : Ads} {S0 S : Sto} {t : Nat} {L : List Nat} {p r q : Nat} {rs : List Rw} {pl : List Op} {o : Op}
theorem held_ev (A : Ads) (h : PS A S0 S t L p r q rs (pl ++ [o])) : sAsg (gN 1) (mOp dIx (mUn (dFld (G_own_pile A) ("own_pile" : Str)) (mVar 0)) (mUn dNeg (mC (.int 1)))) (enter 3 [.ref t]) S = .nx [some (.ref t), some (.ref o.i), none] S := by
  have e4 := (fld_tw h.tw).2.2.2
  have hpw := h.pw
  rw [List.map_append] at hpw
  have el := ix_last hpw
  simp [sAsg, gN, mOp, mUn, mVar, enter, e4, dNeg, el, Res.bind, Res.toS]
/-- the first item is a group -/
theorem first_grp (A : Ads) (h : PS A S0 S t L p r q rs (pl ++ [o])) (hl : L.length ≤ 100000) (hc : L[p]? = some 40) (rec : Fn) {S' : Sto} (e : rec [.ref t] S = .ok .non S') : m_TextWalk_begin_first A rec [.ref t] S = .ok .non S' := by
  have sm := smallM A h (Γ := [some (.ref t), some (.ref o.i), none]) rfl (small_no A h hl (isAt_no hc (by rw [tl_fig]; decide)) (isAt_no hc (by rw [tl_let]; decide)) (isAt_no hc (by decide +kernel)))
  have s2 := sAsg_ok (i := 2) sm
  have c1 : mT (mOp (dIs false) (mVar 2) (mC .non)) [some (.ref t), some (.ref o.i), some .non] S = .ok true S := rfl
  have em : mMeth (H_begin_item A) ("begin_item" : Str) 1 rec (mVar 0) aNil [some (.ref t), some (.ref o.i), some .non] S = .ok .non S' :=
    meth_ok (n := 1) (b := aNil) (mVar_ev rfl) h.tw (h_begin_item A) (lk_tw_begin_item ..) (aNil_ev _ _) rfl e
  exact runF_nx ((sSeq_nx (held_ev A h)).trans ((sSeq_nx s2).trans ((sIf_t c1).trans (sDrop_ok em))))
theorem kind_eq (A : Ads) {i : Nat} {x : Rw} (hx : S[x.i]? = some (x.o A)) (hi : x.i = i) (hk : PyData.strOk x.kind = true) {Γ : En} (hΓ : Γ[2]? = some (some (.ref i))) : mT (mOp dEq (mUn (dFld (G_own_kind A) ("own_kind" : Str)) (mVar 2)) (mC (.str ("use" : Str)))) Γ S = .ok (x.kind == ("use" : Str)) S := by
  subst hi
  have f1 := dFld_ok hx (gi_own_kind A) (lk_ir_own_kind ..)
  have e := dEq_str hk ok_use S
  simp only [mT, mOp, mUn, mVar_ev hΓ, Res.bind_ok, f1, mC_ev, e]
/-- the first item is a leaf, and no let follows -/
theorem first_leaf (A : Ads) (n : Ne A) (h : PS A S0 S t L p r q rs (pl ++ [o])) (hl : L.length ≤ 100000) (hasc : ∀ c ∈ L, c < 1114112) (hp : o.path.length ≤ 100) (hr : rs.length ≤ 10000) {d : Nat} {x : It} (g : Good d x) (hx : isLeaf x = true) {rest : List Nat} (hL : L.drop p = wl x ++ rest) (hst : Stop L (p + (wl x).length)) (hno : rest.take 2 ≠ [32, 61]) (rec : Fn) :
    ∃ i S', m_TextWalk_begin_first A rec [.ref t] S = .ok .non S' ∧ PS A S0 S' t L (p + (wl x).length) r q (rs ++ [⟨i, o.path ++ [o.many], p, p + (wl x).length, leafK x, leafV x⟩]) (pl ++ [⟨o.i, o.path, o.row, o.many + 1⟩]) := by
  obtain ⟨i, S', e, h'⟩ := small_ev A n h hl hp hr g hx hL hst
  have sm := smallM A h (Γ := [some (.ref t), some (.ref o.i), none]) rfl e
  have s2 := sAsg_ok (i := 2) sm
  have c1 : mT (mOp (dIs false) (mVar 2) (mC .non)) [some (.ref t), some (.ref o.i), some (.ref i)] S' = .ok false S' := rfl
  have hrow := h'.ro ⟨i, o.path ++ [o.many], p, p + (wl x).length, leafK x, leafV x⟩ (by simp)
  have hk : PyData.strOk (leafK x) = true := by cases x <;> first | exact ok_number | exact ok_lost | exact ok_use
  have k1 := kind_eq A hrow rfl hk (Γ := [some (.ref t), some (.ref o.i), some (.ref i)]) rfl
  obtain ⟨e1, e2, e3, e4⟩ := fld_tw h'.tw
  have hlen := congrArg List.length hL
  rw [List.length_drop, List.length_append] at hlen
  have hpl : p + (wl x).length ≤ L.length := by
    have : 0 < (wl x).length := by
      obtain ⟨c, l, hc, _⟩ := leaf_sign g hx
      rw [hc]
      simp
    omega
  have hd2 : L.drop (p + (wl x).length) = rest := by
    rw [← List.drop_drop, hL, List.drop_left]
  have cut := cut_any (b := p + (wl x).length + 2) hpl hl S'
  have h22 : p + (wl x).length + 2 - (p + (wl x).length) = 2 := by omega
  rw [h22, hd2] at cut
  have hok : PyData.strOk (Sr' (rest.take 2)) = true := strOk_of fun c hc => hasc c (by
    have h1 := List.mem_of_mem_take hc
    rw [← hd2] at h1
    exact List.mem_of_mem_drop h1)
  have hne : (Sr' (rest.take 2) == (" =" : Str)) = false := by
    rw [beq_eq_false_iff_ne, lit_eq]
    intro z
    exact hno (congrArg tl z)
  have hq := dEq_str hok (by decide +kernel : PyData.strOk (" =" : Str) = true) S'
  rw [hne] at hq
  have c3 : mT (mOp dEq (mSl true (mUn (dFld (G_own_text A) ("own_text" : Str)) (mVar 0)) (oSo (mUn (dFld (G_own_at A) ("own_at" : Str)) (mVar 0))) (oSo (mOp (dAdd true) (mUn (dFld (G_own_at A) ("own_at" : Str)) (mVar 0)) (mC (.int 2))))) (mC (.str (" =" : Str)))) [some (.ref t), some (.ref o.i), some (.ref i)] S' = .ok false S' := by
    have hv : mVar 0 [some (.ref t), some (.ref o.i), some (.ref i)] S' = .ok (.ref t) S' := rfl
    have hadd : dAdd true (.int ((p + (wl x).length : Nat) : Int)) (.int 2) S' = .ok (.int ((p + (wl x).length + 2 : Nat) : Int)) S' := rfl
    simp only [mT, mOp, mSl, mUn, oSo, hv, Res.bind_ok, e1, e2, mC_ev, hadd, cut, hq]
  have c2 : mAnd (mT (mOp dEq (mUn (dFld (G_own_kind A) ("own_kind" : Str)) (mVar 2)) (mC (.str ("use" : Str))))) (mT (mOp dEq (mSl true (mUn (dFld (G_own_text A) ("own_text" : Str)) (mVar 0)) (oSo (mUn (dFld (G_own_at A) ("own_at" : Str)) (mVar 0))) (oSo (mOp (dAdd true) (mUn (dFld (G_own_at A) ("own_at" : Str)) (mVar 0)) (mC (.int 2))))) (mC (.str (" =" : Str))))) [some (.ref t), some (.ref o.i), some (.ref i)] S' = .ok false S' := by
    unfold mAnd
    rw [k1]
    cases (leafK x == ("use" : Str)) with
    | true => exact c3
    | false => rfl
  exact ⟨i, S', runF_nx ((sSeq_nx (held_ev A h)).trans ((sSeq_nx s2).trans ((sIf_f c1).trans ((sIf_f c2).trans rfl)))), h'⟩
end
end K68
end

section
set_option Elab.async false
set_option linter.all false
set_option maxRecDepth 100000
set_option maxHeartbeats 4000000
namespace K68
open PySem PySem.Spec PyProof.Rows L2 Fx TL
section
variable {A : Ads} {S0 S : Sto} {t : Nat} {L : List Nat} {p r q : Nat} {rs : List Rw} {pl : List Op} {o : Op}
theorem first_let (A : Ads) (n : Ne A) {x : Rw} (h : PS A S0 S t L p r q (rs ++ [x]) (pl ++ [o])) (hox : o.row = .ref x.i) (hl : L.length ≤ 100000) (hp : o.path.length ≤ 100) (hr : rs.length ≤ 9999) {s : Str} (hs : s ∈ names) {rest : List Nat} (hL : L.drop p = tl s ++ 32 :: 61 :: rest) (rec : Fn) :
    ∃ x' S', m_TextWalk_begin_first A rec [.ref t] S = .ok .non S' ∧ x'.i = x.i ∧ x'.path = x.path ∧ x'.first = x.first ∧ PS A S0 S' t L (p + (tl s).length + 2) r q (rs ++ [x']) (pl ++ [⟨o.i, o.path, o.row, 0⟩]) := by
  have g : Good 0 (.use s) := hs
  have hd2 : L.drop (p + (tl s).length) = 32 :: 61 :: rest := by
    rw [← List.drop_drop, hL, List.drop_left]
  have hst : Stop L (p + (wl (.use s)).length) := fun c hc => by
    have hc : L[p + (tl s).length]? = some c := hc
    have : (L.drop (p + (tl s).length))[0]? = some c := by rw [List.getElem?_drop]; exact hc
    rw [hd2] at this
    left
    exact (Option.some.inj this).symm
  obtain ⟨i, S1, e, h1⟩ := small_ev A n h hl hp (by simp; omega) g rfl (x := .use s) hL hst
  have h1 : PS A S0 S1 t L (p + (tl s).length) r q ((rs ++ [x]) ++ [⟨i, o.path ++ [o.many], p, p + (tl s).length, "use", .str s⟩]) (pl ++ [⟨o.i, o.path, o.row, o.many + 1⟩]) := h1
  have sm := smallM A h (Γ := [some (.ref t), some (.ref o.i), none]) rfl e
  have s2 := sAsg_ok (i := 2) sm
  have c1 : mT (mOp (dIs false) (mVar 2) (mC .non)) [some (.ref t), some (.ref o.i), some (.ref i)] S1 = .ok false S1 := rfl
  have hrow := h1.ro ⟨i, o.path ++ [o.many], p, p + (tl s).length, "use", .str s⟩ (by simp)
  have k1 := kind_eq A hrow rfl ok_use (Γ := [some (.ref t), some (.ref o.i), some (.ref i)]) rfl
  have hlen := congrArg List.length hL
  rw [List.length_drop, List.length_append, List.length_cons, List.length_cons] at hlen
  have e12 := fld_tw h1.tw
  obtain ⟨e1, e2, e3, e4⟩ := e12
  have cut := cut_any (b := p + (tl s).length + 2) (by omega : p + (tl s).length ≤ L.length) hl S1
  have h22 : p + (tl s).length + 2 - (p + (tl s).length) = 2 := by omega
  rw [h22, hd2] at cut
  have cut : dSl true (.str (Sr' L)) (some ((p + (tl s).length : Nat) : Int)) (some ((p + (tl s).length + 2 : Nat) : Int)) S1 = .ok (.str (Sr' [32, 61])) S1 := cut
  have hq := dEq_str (by decide +kernel : PyData.strOk (Sr' [32, 61]) = true) (by decide +kernel : PyData.strOk (" =" : Str) = true) S1
  rw [lit_eq, beq_rfl] at hq
  rw [← lit_eq] at hq
  have c2 : mAnd (mT (mOp dEq (mUn (dFld (G_own_kind A) ("own_kind" : Str)) (mVar 2)) (mC (.str ("use" : Str))))) (mT (mOp dEq (mSl true (mUn (dFld (G_own_text A) ("own_text" : Str)) (mVar 0)) (oSo (mUn (dFld (G_own_at A) ("own_at" : Str)) (mVar 0))) (oSo (mOp (dAdd true) (mUn (dFld (G_own_at A) ("own_at" : Str)) (mVar 0)) (mC (.int 2))))) (mC (.str (" =" : Str))))) [some (.ref t), some (.ref o.i), some (.ref i)] S1 = .ok true S1 := by
    have hv : mVar 0 [some (.ref t), some (.ref o.i), some (.ref i)] S1 = .ok (.ref t) S1 := rfl
    have hadd : dAdd true (.int ((p + (tl s).length : Nat) : Int)) (.int 2) S1 = .ok (.int ((p + (tl s).length + 2 : Nat) : Int)) S1 := rfl
    unfold mAnd
    rw [k1]
    rw [beq_rfl]
    rw [← lit_eq] at cut
    simp only [Res.bind_ok, mT, mOp, mSl, mUn, oSo, hv, e1, e2, mC_ev, hadd, cut, hq]
  -- the row that was read is let go
  have hr1 := h1.rw'
  have s3 : sDrop (mPop (mUn (dFld (G_own_rows A) ("own_rows" : Str)) (mVar 0))) [some (.ref t), some (.ref o.i), some (.ref i)] S1 = .nx [some (.ref t), some (.ref o.i), some (.ref i)] (S1.set r (.lst ((rs ++ [x]).map fun x => D.ref x.i))) := by
    refine sDrop_ok (d := .ref i) ?_
    have hv : mVar 0 [some (.ref t), some (.ref o.i), some (.ref i)] S1 = .ok (.ref t) S1 := rfl
    rw [List.map_append] at hr1
    have hix : (List.map (fun x => D.ref x.i) (rs ++ [x]) ++ [D.ref i])[(List.map (fun x => D.ref x.i) (rs ++ [x]) ++ [D.ref i]).length - 1]? = some (.ref i) := by simp
    have hr1 : S1[r]? = some (O.lst (List.map (fun x => D.ref x.i) (rs ++ [x]) ++ [D.ref i])) := hr1
    simp only [mPop, mUn, hv, Res.bind_ok, e3, hr1, hix, List.dropLast_concat]
  have h2 := h1.rows (rs ++ [x]) (fun y hy => h1.ro y (List.mem_append_left _ hy)) (by
    have := h1.ndr
    rw [List.map_append] at this
    exact (List.nodup_append.mp this).1) (fun y hy => h1.grs y (List.mem_append_left _ hy))
  have hir : r ≠ i := h1.rrs (x := ⟨i, o.path ++ [o.many], p, p + (tl s).length, "use", .str s⟩) (by simp)
  have hio : i ≠ o.i := h1.ip n (x := ⟨i, o.path ++ [o.many], p, p + (tl s).length, "use", .str s⟩) (by simp) (y := ⟨o.i, o.path, o.row, o.many + 1⟩) (by simp)
  have hix : x.i ≠ i := by
    have := h1.ndr
    rw [List.append_assoc] at this
    exact nodup_mid (x := x) (y := ⟨i, o.path ++ [o.many], p, p + (tl s).length, "use", .str s⟩) this (by simp)
  have hrow2 := (set_ne (x := .lst ((rs ++ [x]).map fun x => D.ref x.i)) hir).trans hrow
  generalize S1.set r (.lst ((rs ++ [x]).map fun x => D.ref x.i)) = S2 at *
  have ho2 := h2.po ⟨o.i, o.path, o.row, o.many + 1⟩ (by simp)
  have s4 : sFldA (G_own_many A) ("own_many" : Str) (mVar 1) (mC (.int 0)) [some (.ref t), some (.ref o.i), some (.ref i)] S2 = .nx [some (.ref t), some (.ref o.i), some (.ref i)] (S2.set o.i (Op.o A ⟨o.i, o.path, o.row, 0⟩)) :=
    fldA_ok (t := o.i) rfl rfl ho2 (go_own_many A) (by simp) (pt_oi_own_many ..)
  have h3 := h2.op n ⟨o.i, o.path, o.row, 0⟩ rfl
  have hrow3 := (set_ne (x := Op.o A ⟨o.i, o.path, o.row, 0⟩) hio.symm).trans hrow2
  generalize S2.set o.i (Op.o A ⟨o.i, o.path, o.row, 0⟩) = S3 at *
  have ho3 := h3.po ⟨o.i, o.path, o.row, 0⟩ (by simp)
  have fr3 : mUn (dFld (G_own_row A) ("own_row" : Str)) (mVar 1) [some (.ref t), some (.ref o.i), some (.ref i)] S3 = .ok (.ref x.i) S3 := by
    have f1 := dFld_ok ho3 (go_own_row A) (lk_oi_own_row ..)
    rw [hox] at f1
    simp [mUn, mVar, f1, Res.bind]
  have hx3 := h3.ro x (by simp)
  have s5 : sFldA (G_own_kind A) ("own_kind" : Str) (mUn (dFld (G_own_row A) ("own_row" : Str)) (mVar 1)) (mC (.str ("let" : Str))) [some (.ref t), some (.ref o.i), some (.ref i)] S3 = .nx [some (.ref t), some (.ref o.i), some (.ref i)] (S3.set x.i (Rw.o A ⟨x.i, x.path, x.first, x.behind, "let", x.val⟩)) :=
    fldA_ok (t := x.i) rfl fr3 hx3 (gi_own_kind A) (by simp) (pt_ir_own_kind ..)
  have h4 := h3.row n (b := []) ⟨x.i, x.path, x.first, x.behind, "let", x.val⟩ rfl
  have hrow4 := (set_ne (x := Rw.o A ⟨x.i, x.path, x.first, x.behind, "let", x.val⟩) hix).trans hrow3
  generalize S3.set x.i (Rw.o A ⟨x.i, x.path, x.first, x.behind, "let", x.val⟩) = S4 at *
  have ho4 := h4.po ⟨o.i, o.path, o.row, 0⟩ (by simp)
  have fr4 : mUn (dFld (G_own_row A) ("own_row" : Str)) (mVar 1) [some (.ref t), some (.ref o.i), some (.ref i)] S4 = .ok (.ref x.i) S4 := by
    have f1 := dFld_ok ho4 (go_own_row A) (lk_oi_own_row ..)
    rw [hox] at f1
    simp [mUn, mVar, f1, Res.bind]
  have hx4 := h4.ro ⟨x.i, x.path, x.first, x.behind, "let", x.val⟩ (by simp)
  have fv4 : mUn (dFld (G_own_value A) ("own_value" : Str)) (mVar 2) [some (.ref t), some (.ref o.i), some (.ref i)] S4 = .ok (.str s) S4 := by
    have f1 := dFld_ok hrow4 (gi_own_value A) (lk_ir_own_value ..)
    simp [mUn, mVar, f1, Res.bind]
  have s6 : sFldA (G_own_value A) ("own_value" : Str) (mUn (dFld (G_own_row A) ("own_row" : Str)) (mVar 1)) (mUn (dFld (G_own_value A) ("own_value" : Str)) (mVar 2)) [some (.ref t), some (.ref o.i), some (.ref i)] S4 = .nx [some (.ref t), some (.ref o.i), some (.ref i)] (S4.set x.i (Rw.o A ⟨x.i, x.path, x.first, x.behind, "let", .str s⟩)) :=
    fldA_ok (t := x.i) fv4 fr4 hx4 (gi_own_value A) (by simp) (pt_ir_own_value ..)
  have h5 := h4.row n (b := []) ⟨x.i, x.path, x.first, x.behind, "let", .str s⟩ rfl
  have s7 := inc_ev h5 (Γ := [some (.ref t), some (.ref o.i), some (.ref i)]) rfl 2
  have h6 := h5.at n (p + (tl s).length + 2)
  refine ⟨⟨x.i, x.path, x.first, x.behind, "let", .str s⟩, _, ?_, rfl, rfl, rfl, h6⟩
  exact runF_nx ((sSeq_nx (held_ev A h)).trans ((sSeq_nx s2).trans ((sIf_f c1).trans ((sIf_t c2).trans ((sSeq_nx s3).trans ((sSeq_nx s4).trans ((sSeq_nx s5).trans ((sSeq_nx s6).trans s7))))))))
end
end K68
end

section
set_option Elab.async false
set_option linter.all false
set_option maxRecDepth 100000
set_option maxHeartbeats 4000000
namespace K68
open PySem PySem.Spec PyProof.Rows L2 Fx TL
abbrev rowOf (x : Rw) : Row := (x.path, x.first, x.behind)
theorem drop_next {L a b : List Nat} {p : Nat} (h : L.drop p = a ++ b) : L.drop (p + a.length) = b := by
  rw [← List.drop_drop, h, List.drop_left]
theorem drop_at {L b : List Nat} {p c : Nat} (h : L.drop p = c :: b) : L[p]? = some c := by
  have : (L.drop p)[0]? = some c := by rw [h]; rfl
  simpa using this
/-- begin_item at a printed item -/
def BI (A : Ads) (x : It) : Prop := ∀ {S0 S : Sto} {t : Nat} {L : List Nat} {p r q : Nat} {rs : List Rw} {pl : List Op} {o : Op} {d f : Nat} {rest : List Nat}, PS A S0 S t L p r q rs (pl ++ [o]) → L.length ≤ 100000 → (∀ c ∈ L, c < 1114112) → Good d x → d < f → f ≤ 12 → o.path.length + d ≤ 50 → pl.length + d ≤ 100 → rs.length + (spn x (o.path ++ [o.many]) p).length ≤ 9000 →
  L.drop p = wl x ++ rest → Stop L (p + (wl x).length) →
  ∃ S1 S2 k rs', m_TextWalk_begin_item A f [.ref t] S = .ok .non S1 ∧ Go A t k S1 S2 ∧ k ≤ (wl x).length ∧ PS A S0 S2 t L (p + (wl x).length) r q (rs ++ rs') (pl ++ [⟨o.i, o.path, o.row, o.many + 1⟩]) ∧ rs'.map rowOf = spn x (o.path ++ [o.many]) p
/-- the loop over printed items, each with a blank ahead -/
def SI (A : Ads) (xs : List It) : Prop := ∀ {S0 S : Sto} {t : Nat} {L : List Nat} {p r q : Nat} {rs : List Rw} {pl : List Op} {o : Op} {d : Nat} {rest : List Nat}, PS A S0 S t L p r q rs (pl ++ [o]) → L.length ≤ 100000 → (∀ c ∈ L, c < 1114112) → Goods d xs → d < 12 → o.path.length + d ≤ 50 → pl.length + d ≤ 100 → rs.length + (spns xs o.path o.many (p + 1)).length ≤ 9000 →
  L.drop p = sp xs ++ rest → Stop L (p + (sp xs).length) →
  ∃ S2 k rs', Go A t k S S2 ∧ k ≤ (sp xs).length ∧ PS A S0 S2 t L (p + (sp xs).length) r q (rs ++ rs') (pl ++ [⟨o.i, o.path, o.row, o.many + xs.length⟩]) ∧ rs'.map rowOf = spns xs o.path o.many (p + 1)
theorem spn_leaf {x : It} (hx : isLeaf x = true) (p : List Nat) (f : Nat) : spn x p f = [(p, f, f + (wl x).length)] := by
  cases x with
  | num i => rw [spn]
  | lost => rw [spn]
  | use s => rw [spn]
  | grp k xs => cases hx
  | lt s xs => cases hx
theorem bi_leaf (A : Ads) (n : Ne A) {x : It} (hx : isLeaf x = true) : BI A x := by
  intro S0 S t L p r q rs pl o d f rest h hl hasc g hf hf2 hpa hpi hr hL hst
  cases f with
  | zero => omega
  | succ f =>
    obtain ⟨i, S', e, h'⟩ := small_ev A n h hl (by omega) (by omega) g hx hL hst
    have sm := smallM A h (Γ := [some (.ref t), none]) rfl e
    have c1 : mT (mOp (dIs true) (mMeth (H_small_item A) ("small_item" : Str) 1 (m_TextWalk_small_item A) (mVar 0) aNil) (mC .non)) [some (.ref t), none] S = .ok true S' := by
      simp [mT, mOp, sm, dIs, Fx.isNon, Res.bind]
    have e1 : m_TextWalk_begin_item A (f + 1) [.ref t] S = .ok .non S' := runF_rt (b := b_TextWalk_begin_item A (m_TextWalk_begin_item A f)) (N := 2) (sSeq_rt ((sIf_t c1).trans rfl))
    refine ⟨S', S', 0, _, e1, Go.zero, Nat.zero_le _, h', ?_⟩
    rw [spn_leaf hx]
    rfl
theorem si_nil (A : Ads) : SI A [] := by
  intro S0 S t L p r q rs pl o d rest h hl hasc g hd hpa hpi hr hL hst
  exact ⟨S, 0, [], Go.zero, Nat.zero_le _, by simpa [sp] using h, by rw [spns]; rfl⟩
theorem stop_sp {L rest : List Nat} {p : Nat} {xs : List It} (h : L.drop p = sp xs ++ rest) (hs : Stop L (p + (sp xs).length)) : Stop L p := by
  cases xs with
  | nil => simpa [sp] using hs
  | cons x xs =>
    intro c hc
    rw [sp] at h
    rw [drop_at h] at hc
    exact .inl (Option.some.inj hc).symm
theorem si_cons (A : Ads) (n : Ne A) {x : It} {xs : List It} (hx : BI A x) (hxs : SI A xs) : SI A (x :: xs) := by
  intro S0 S t L p r q rs pl o d rest h hl hasc g hd hpa hpi hr hL hst
  have hsp : sp (x :: xs) = 32 :: (wl x ++ sp xs) := by rw [sp]
  rw [hsp] at hL hst
  rw [spns, List.length_append] at hr
  have h32 := drop_at hL
  have hL1 : L.drop (p + 1) = wl x ++ (sp xs ++ rest) := by
    have := drop_next (a := [32]) (b := wl x ++ sp xs ++ rest) (L := L) (p := p) hL
    simpa using this
  have hL2 := drop_next hL1
  have hst2 : Stop L (p + 1 + (wl x).length + (sp xs).length) := by
    simp only [List.length_cons, List.length_append] at hst
    have e : p + 1 + (wl x).length + (sp xs).length = p + ((wl x).length + (sp xs).length + 1) := by omega
    rw [e]
    exact hst
  have hst1 := stop_sp hL2 hst2
  have h1 := h.at n (p + 1)
  obtain ⟨S1, S2, k, rs', e1, e2, hk, h2, hrs⟩ := hx (d := d) (f := 12) h1 hl hasc g.1 (by omega) (by omega) (by omega) (by omega) (by omega) hL1 hst1
  have hrl : rs'.length = (spn x (o.path ++ [o.many]) (p + 1)).length := by rw [← hrs, List.length_map]
  obtain ⟨S3, k2, rs2, e3, hk2, h3, hrs2⟩ := hxs (d := d) h2 hl hasc g.2 hd hpa hpi (by rw [List.length_append]; dsimp only; omega) hL2 hst2
  have t1 := turn_blank A n h hl h32 (S' := S1) (fun S4 _ e4 => by rw [e4]; exact e1)
  refine ⟨S3, 1 + (k + k2), rs' ++ rs2, t1.trans (e2.trans e3), ?_, ?_, ?_⟩
  · rw [hsp, List.length_cons, List.length_append]
    omega
  · have ep : p + (sp (x :: xs)).length = p + 1 + (wl x).length + (sp xs).length := by
      rw [hsp, List.length_cons, List.length_append]
      omega
    have em : o.many + (x :: xs).length = o.many + 1 + xs.length := by
      rw [List.length_cons]
      omega
    rw [ep, em, ← List.append_assoc]
    exact h3
  · rw [List.map_append, hrs, hrs2, spns]
theorem head_ne {d : Nat} {x : It} (g : Good d x) : ∃ c l, wl x = c :: l ∧ c ≠ 41 ∧ c ≠ 42 ∧ c ≠ 43 ∧ c ≠ 61 ∧ (isLeaf x = false → c = 40) := by
  by_cases hx : isLeaf x = true
  · obtain ⟨c, l, e, hc⟩ := leaf_sign g hx
    refine ⟨c, l, e, ?_⟩
    have : c = 63 ∨ (48 ≤ c ∧ c ≤ 57) ∨ 97 ≤ c := by
      cases x with
      | num i =>
        right; left
        have hc : c ∈ tl FIG := hc
        rw [tl_fig] at hc
        simp only [List.mem_cons, List.not_mem_nil, or_false] at hc
        omega
      | lost => exact .inl hc
      | use s =>
        right; right
        have hc := hc.1
        rw [tl_let] at hc
        simp only [List.mem_cons, List.not_mem_nil, or_false] at hc
        omega
      | grp k xs => cases hx
      | lt s xs => cases hx
    exact ⟨by omega, by omega, by omega, by omega, fun h => absurd (hx.symm.trans h) (by simp)⟩
  · cases x with
    | num i => exact absurd rfl hx
    | lost => exact absurd rfl hx
    | use s => exact absurd rfl hx
    | grp k xs =>
      match k, xs with
      | 0, [] => exact ⟨40, _, by rw [wl], by decide, by decide, by decide, by decide, fun _ => rfl⟩
      | 0, x :: xs => exact ⟨40, _, by rw [wl], by decide, by decide, by decide, by decide, fun _ => rfl⟩
      | 1, xs => exact ⟨40, _, by rw [wl], by decide, by decide, by decide, by decide, fun _ => rfl⟩
      | k + 2, xs => exact ⟨40, _, by rw [wl] <;> simp, by decide, by decide, by decide, by decide, fun _ => rfl⟩
    | lt s xs => exact ⟨40, _, by rw [wl], by decide, by decide, by decide, by decide, fun _ => rfl⟩
end K68
end

section
set_option Elab.async false
set_option linter.all false
set_option maxRecDepth 100000
set_option maxHeartbeats 4000000
namespace K68
open PySem PySem.Spec PyProof.Rows L2 Fx TL
section
variable {A : Ads} {S0 S : Sto} {t : Nat} {L : List Nat} {p r q : Nat} {rs : List Rw} {pl : List Op} {o : Op}
theorem begin_of (A : Ads) {f : Nat} {Γ : En} {S' : Sto} (h : b_TextWalk_begin_item A (m_TextWalk_begin_item A f) [some (.ref t), none] S = .nx Γ S') : m_TextWalk_begin_item A (f + 1) [.ref t] S = .ok .non S' :=
  runF_nx (b := b_TextWalk_begin_item A (m_TextWalk_begin_item A f)) (N := 2) h
/-- neither + nor *, and not ): the first item -/
theorem opR_first (A : Ads) (h : PS A S0 S t L p r q rs pl) (hl : L.length ≤ 100000) {i : Nat} (h1 : isAt L p "+*" = false) (h2 : isAt L p ")" = false) {rec : Fn} {S' : Sto} (e : m_TextWalk_begin_first A rec [.ref t] S = .ok .non S') : opR A rec [some (.ref t), some (.ref i)] S = .nx [some (.ref t), some (.ref i)] S' := by
  have n1 := mT_ok (nextM A h hl (Γ := [some (.ref t), some (.ref i)]) rfl "+*")
  have n2 := mT_ok (nextM A h hl (Γ := [some (.ref t), some (.ref i)]) rfl ")")
  rw [h1] at n1
  rw [h2] at n2
  have em : mMeth (H_begin_first A) ("begin_first" : Str) 1 (m_TextWalk_begin_first A rec) (mVar 0) aNil [some (.ref t), some (.ref i)] S = .ok .non S' :=
    meth_ok (n := 1) (b := aNil) (mVar_ev rfl) h.tw (h_begin_first A) (lk_tw_begin_first ..) (aNil_ev _ _) rfl e
  exact (sIf_f n1).trans ((sIf_t (mNot_ok n2)).trans (sDrop_ok em))
theorem opR_none (A : Ads) (h : PS A S0 S t L p r q rs pl) (hl : L.length ≤ 100000) {i : Nat} (h1 : isAt L p "+*" = false) (h2 : isAt L p ")" = true) {rec : Fn} : opR A rec [some (.ref t), some (.ref i)] S = .nx [some (.ref t), some (.ref i)] S := by
  have n1 := mT_ok (nextM A h hl (Γ := [some (.ref t), some (.ref i)]) rfl "+*")
  have n2 := mT_ok (nextM A h hl (Γ := [some (.ref t), some (.ref i)]) rfl ")")
  rw [h1] at n1
  rw [h2] at n2
  exact (sIf_f n1).trans ((sIf_f (mNot_ok n2)).trans rfl)
theorem opR_sign (A : Ads) (n : Ne A) {x : Rw} (h : PS A S0 S t L p r q (rs ++ [x]) pl) (hl : L.length ≤ 100000) {c : Nat} (hc : L[p]? = some c) (h1 : isAt L p "+*" = true) {k : Str} (hk : t_SIGNED_KINDS.lookup (Sr' [c]) = some k) {rec : Fn} :
    ∃ S', opR A rec [some (.ref t), some (.ref x.i)] S = .nx [some (.ref t), some (.ref x.i)] S' ∧ PS A S0 S' t L (p + 1) r q (rs ++ [⟨x.i, x.path, x.first, x.behind, k, x.val⟩]) pl := by
  have n1 := mT_ok (nextM A h hl (Γ := [some (.ref t), some (.ref x.i)]) rfl "+*")
  rw [h1] at n1
  obtain ⟨e1, e2, e3, e4⟩ := fld_tw h.tw
  have ei := ix_str hc hl S
  have hx := h.ro x (by simp)
  have ek : mOp (dKd A.g_SIGNED_KINDS t_SIGNED_KINDS) (mC (.adr A.g_SIGNED_KINDS)) (mOp dIx (mUn (dFld (G_own_text A) ("own_text" : Str)) (mVar 0)) (mUn (dFld (G_own_at A) ("own_at" : Str)) (mVar 0))) [some (.ref t), some (.ref x.i)] S = .ok (.str k) S := by
    have hv : mVar 0 [some (.ref t), some (.ref x.i)] S = .ok (.ref t) S := rfl
    simp only [mOp, mC_ev, mUn, hv, Res.bind_ok, e1, e2, ei, dKd, if_true, hk]
  have s1 : sFldA (G_own_kind A) ("own_kind" : Str) (mVar 1) (mOp (dKd A.g_SIGNED_KINDS t_SIGNED_KINDS) (mC (.adr A.g_SIGNED_KINDS)) (mOp dIx (mUn (dFld (G_own_text A) ("own_text" : Str)) (mVar 0)) (mUn (dFld (G_own_at A) ("own_at" : Str)) (mVar 0)))) [some (.ref t), some (.ref x.i)] S = .nx [some (.ref t), some (.ref x.i)] (S.set x.i (Rw.o A ⟨x.i, x.path, x.first, x.behind, k, x.val⟩)) :=
    fldA_ok (t := x.i) ek rfl hx (gi_own_kind A) (by simp) (pt_ir_own_kind ..)
  have h2 := h.row n (b := []) ⟨x.i, x.path, x.first, x.behind, k, x.val⟩ rfl
  have s2 := inc_ev h2 (Γ := [some (.ref t), some (.ref x.i)]) rfl 1
  exact ⟨_, (sIf_t n1).trans ((sSeq_nx s1).trans s2), h2.at n (p + 1)⟩
end
theorem bi_empty (A : Ads) (n : Ne A) : BI A (.grp 0 []) := by
  intro S0 S t L p r q rs pl o d f rest h hl hasc g hf hf2 hpa hpi hr hL hst
  cases f with
  | zero => omega
  | succ f =>
    have hw : wl (.grp 0 []) = [40, 41] := by rw [wl]
    rw [hw] at hL
    have h40 := drop_at hL
    have hL1 := drop_next (a := [40]) (b := 41 :: rest) hL
    have h41 := drop_at hL1
    rw [List.length_singleton] at h41
    rw [spn, spns, List.length_singleton] at hr
    obtain ⟨i, S5, e5, j, h5⟩ := open_ev A n h hl (by omega) (by omega) (by omega) h40 (m_TextWalk_begin_item A f)
    have en := opR_none A h5 hl (i := i) (rec := m_TextWalk_begin_item A f) (isAt_no h41 (by decide +kernel)) (isAt_of h41 (by decide +kernel))
    obtain ⟨S6, t6, h6⟩ := turn_close A n (rs := rs) (rsi := []) h5 hl rfl h41
    refine ⟨S5, S6, 1, _, begin_of A (e5.trans en), t6, by rw [hw]; decide, h6, ?_⟩
    rw [spn, spns, hw]
    rfl
theorem bi_sgn (A : Ads) (n : Ne A) {k c : Nat} {xs : List It} (hxs : SI A xs) (hw : wl (.grp k xs) = 40 :: c :: (sp xs ++ [41])) (hk : off k = 3) {kd : Str} (hc1 : c ∈ tl ("+*" : Str)) (hkd : t_SIGNED_KINDS.lookup (Sr' [c]) = some kd) : BI A (.grp k xs) := by
  intro S0 S t L p r q rs pl o d f rest h hl hasc g hf hf2 hpa hpi hr hL hst
  cases f with
  | zero => omega
  | succ f =>
    cases d with
    | zero => exact g.elim
    | succ d =>
      obtain ⟨_, hl3, gs⟩ := g
      rw [hw] at hL
      have h40 := drop_at hL
      have hL1 := drop_next (a := [40]) (b := c :: (sp xs ++ [41]) ++ rest) hL
      have hc := drop_at hL1
      have hL2 : L.drop (p + 1 + 1) = sp xs ++ (41 :: rest) := by
        have := drop_next (a := [c]) (b := sp xs ++ [41] ++ rest) hL1
        simpa using this
      have hL3 := drop_next hL2
      have h41 := drop_at hL3
      rw [spn, List.length_cons, hk, show p + 3 = p + 1 + 1 + 1 from rfl] at hr
      obtain ⟨i, S5, e5, j, h5⟩ := open_ev A n h hl (by omega) (by omega) (by omega) h40 (m_TextWalk_begin_item A f)
      obtain ⟨S6, e6, h6⟩ := opR_sign A n (x := ⟨i, o.path ++ [o.many], p, p, "block", .non⟩) h5 hl hc (isAt_of hc hc1) hkd (rec := m_TextWalk_begin_item A f)
      obtain ⟨S7, k7, rs', t7, hk7, h7, hrs⟩ := hxs (d := d) h6 hl hasc gs (by omega) (by simp; omega) (by simp; omega) (by simp; omega) hL2 (fun c hc => by
        rw [h41] at hc
        exact .inr (Option.some.inj hc).symm)
      have h7' : PS A S0 S7 t L (p + 1 + 1 + (sp xs).length) r q (rs ++ ⟨i, o.path ++ [o.many], p, p, kd, .non⟩ :: rs') ((pl ++ [⟨o.i, o.path, o.row, o.many + 1⟩]) ++ [⟨j, o.path ++ [o.many], .ref i, 0 + xs.length⟩]) := by
        have := h7
        rw [List.append_assoc] at this
        exact this
      obtain ⟨S8, t8, h8⟩ := turn_close A n h7' hl rfl h41
      have hlen : (wl (.grp k xs)).length = 1 + 1 + (sp xs).length + 1 := by
        rw [hw]
        simp
        omega
      refine ⟨S6, S8, k7 + 1, ⟨i, o.path ++ [o.many], p, p + 1 + 1 + (sp xs).length + 1, kd, .non⟩ :: rs', begin_of A (e5.trans e6), t7.trans t8, by rw [hlen]; omega, ?_, ?_⟩
      · have : p + (wl (.grp k xs)).length = p + 1 + 1 + (sp xs).length + 1 := by rw [hlen]; omega
        rw [this]
        exact h8
      · rw [List.map_cons, hrs, spn, hk, hlen]
        have : p + (1 + 1 + (sp xs).length + 1) = p + 1 + 1 + (sp xs).length + 1 := by omega
        rw [this]

theorem first_head {d : Nat} {x : It} {xs : List It} (g : Goods d (x :: xs)) {rest : List Nat} : (sp xs ++ 41 :: rest).take 2 ≠ [32, 61] := by
  cases xs with
  | nil =>
    rw [sp]
    intro h
    have h := congrArg List.head? h
    simp at h
  | cons y ys =>
    obtain ⟨c, l, e, _, _, _, h61, _⟩ := head_ne g.2.1
    rw [sp, e]
    intro h
    simp at h
    exact h61 h
theorem bi_blk (A : Ads) (n : Ne A) {x : It} {xs : List It} (hx : BI A x) (hxs : SI A xs) : BI A (.grp 0 (x :: xs)) := by
  intro S0 S t L p r q rs pl o d f rest h hl hasc g hf hf2 hpa hpi hr hL hst
  cases f with
  | zero => omega
  | succ f =>
    cases d with
    | zero => exact g.elim
    | succ d =>
      obtain ⟨_, hl3, gs⟩ := g
      have hw : wl (.grp 0 (x :: xs)) = 40 :: (wl x ++ (sp xs ++ [41])) := by rw [wl]
      rw [hw] at hL
      have h40 := drop_at hL
      have hL1 : L.drop (p + 1) = wl x ++ (sp xs ++ (41 :: rest)) := by
        have := drop_next (a := [40]) (b := wl x ++ (sp xs ++ [41]) ++ rest) hL
        simpa using this
      have hL2 := drop_next hL1
      have hL3 := drop_next hL2
      have h41 := drop_at hL3
      have hst3 : Stop L (p + 1 + (wl x).length + (sp xs).length) := fun c hc => by
        rw [h41] at hc
        exact .inr (Option.some.inj hc).symm
      have hst2 := stop_sp hL2 hst3
      rw [spn, List.length_cons, show off 0 = 1 from rfl, spns, List.length_append] at hr
      obtain ⟨i, S5, e5, j, h5⟩ := open_ev A n h hl (by omega) (by omega) (by omega) h40 (m_TextWalk_begin_item A f)
      obtain ⟨c, l, ec, n41, n42, n43, n61, hg40⟩ := head_ne gs.1
      have hc : L[p + 1]? = some c := drop_at (b := l ++ (sp xs ++ 41 :: rest)) (by rw [hL1, ec]; rfl)
      -- the first item
      have first : ∃ S6 S7 k rs', m_TextWalk_begin_first A (m_TextWalk_begin_item A f) [.ref t] S5 = .ok .non S6 ∧ Go A t k S6 S7 ∧ k ≤ (wl x).length ∧ PS A S0 S7 t L (p + 1 + (wl x).length) r q ((rs ++ [⟨i, o.path ++ [o.many], p, p, "block", .non⟩]) ++ rs') ((pl ++ [⟨o.i, o.path, o.row, o.many + 1⟩]) ++ [⟨j, o.path ++ [o.many], .ref i, 1⟩]) ∧ rs'.map rowOf = spn x ((o.path ++ [o.many]) ++ [0]) (p + 1) := by
        by_cases hlf : isLeaf x = true
        · obtain ⟨i2, S6, e6, h6⟩ := first_leaf A n h5 hl hasc (by simp; omega) (by simp; omega) gs.1 hlf hL1 hst2 (first_head gs) (m_TextWalk_begin_item A f)
          exact ⟨S6, S6, 0, _, e6, Go.zero, Nat.zero_le _, h6, by rw [spn_leaf hlf]; rfl⟩
        · have hlf : isLeaf x = false := by simpa using hlf
          obtain ⟨S6, S7, k, rs', e6, t6, hk6, h7, hrs⟩ := hx (d := d) (f := f) h5 hl hasc gs.1 (by omega) (by omega) (by simp only [List.length_append, List.length_cons, List.length_nil]; omega) (by simp only [List.length_append, List.length_cons, List.length_nil]; omega) (by simp only [List.length_append, List.length_cons, List.length_nil]; omega) hL1 hst2
          have hc40 : L[p + 1]? = some 40 := by rw [hc, hg40 hlf]
          exact ⟨S6, S7, k, rs', first_grp A h5 hl hc40 _ e6, t6, hk6, h7, hrs⟩
      obtain ⟨S6, S7, k, rs', e6, t6, hk6, h7, hrs⟩ := first
      have hrl : rs'.length = (spn x ((o.path ++ [o.many]) ++ [0]) (p + 1)).length := by rw [← hrs, List.length_map]
      have eo := opR_first A h5 hl (i := i) (isAt_no hc (by
        rw [show tl ("+*" : Str) = [43, 42] from by decide +kernel]
        simp only [List.mem_cons, List.not_mem_nil, or_false]
        omega)) (isAt_no hc (by
        rw [show tl (")" : Str) = [41] from by decide +kernel]
        simp only [List.mem_cons, List.not_mem_nil, or_false]
        omega)) e6
      obtain ⟨S8, k8, rs2, t8, hk8, h8, hrs2⟩ := hxs (d := d) h7 hl hasc gs.2 (by omega) (by simp; omega) (by simp; omega) (by simp; simp at hr hrl; omega) hL2 hst3
      have h8' : PS A S0 S8 t L (p + 1 + (wl x).length + (sp xs).length) r q (rs ++ ⟨i, o.path ++ [o.many], p, p, "block", .non⟩ :: (rs' ++ rs2)) ((pl ++ [⟨o.i, o.path, o.row, o.many + 1⟩]) ++ [⟨j, o.path ++ [o.many], .ref i, 1 + xs.length⟩]) := by
        have := h8
        rw [List.append_assoc, List.append_assoc] at this
        exact this
      obtain ⟨S9, t9, h9⟩ := turn_close A n h8' hl rfl h41
      have hlen : (wl (.grp 0 (x :: xs))).length = 1 + (wl x).length + (sp xs).length + 1 := by
        rw [hw]
        simp
        omega
      refine ⟨S6, S9, k + (k8 + 1), ⟨i, o.path ++ [o.many], p, p + 1 + (wl x).length + (sp xs).length + 1, "block", .non⟩ :: (rs' ++ rs2), begin_of A (e5.trans eo), t6.trans (t8.trans t9), by rw [hlen]; omega, ?_, ?_⟩
      · have : p + (wl (.grp 0 (x :: xs))).length = p + 1 + (wl x).length + (sp xs).length + 1 := by rw [hlen]; omega
        rw [this]
        exact h9
      · rw [List.map_cons, List.map_append, hrs, hrs2, spn, spns, show off 0 = 1 from rfl, hlen]
        have : p + (1 + (wl x).length + (sp xs).length + 1) = p + 1 + (wl x).length + (sp xs).length + 1 := by omega
        rw [this]
theorem bi_lt (A : Ads) (n : Ne A) {s : Str} {xs : List It} (hxs : SI A xs) : BI A (.lt s xs) := by
  intro S0 S t L p r q rs pl o d f rest h hl hasc g hf hf2 hpa hpi hr hL hst
  cases f with
  | zero => omega
  | succ f =>
    cases d with
    | zero => exact g.elim
    | succ d =>
      obtain ⟨hs, hl3, gs⟩ := g
      have hw : wl (.lt s xs) = 40 :: (tl s ++ 32 :: 61 :: (sp xs ++ [41])) := by rw [wl]
      rw [hw] at hL
      have h40 := drop_at hL
      have hL1 : L.drop (p + 1) = tl s ++ 32 :: 61 :: (sp xs ++ (41 :: rest)) := by
        have := drop_next (a := [40]) (b := tl s ++ 32 :: 61 :: (sp xs ++ [41]) ++ rest) hL
        simpa using this
      have hL2 : L.drop (p + 1 + (tl s).length + 2) = sp xs ++ (41 :: rest) := by
        have := drop_next (a := [32, 61]) (b := sp xs ++ (41 :: rest)) (drop_next hL1)
        exact this
      have hL3 := drop_next hL2
      have h41 := drop_at hL3
      have hst3 : Stop L (p + 1 + (tl s).length + 2 + (sp xs).length) := fun c hc => by
        rw [h41] at hc
        exact .inr (Option.some.inj hc).symm
      have ep : p + ((tl s).length + 4) = p + 1 + (tl s).length + 2 + 1 := by omega
      rw [spn, List.length_cons, ep] at hr
      obtain ⟨i, S5, e5, j, h5⟩ := open_ev A n h hl (by omega) (by omega) (by omega) h40 (m_TextWalk_begin_item A f)
      obtain ⟨c, l, ec, hcc⟩ := leaf_sign (d := 0) (x := .use s) hs rfl
      have hc : L[p + 1]? = some c := by
        have ec : tl s = c :: l := ec
        exact drop_at (b := l ++ 32 :: 61 :: (sp xs ++ 41 :: rest)) (by rw [hL1, ec]; rfl)
      have hlet := hcc.1
      rw [tl_let] at hlet
      simp only [List.mem_cons, List.not_mem_nil, or_false] at hlet
      obtain ⟨x', S6, e6, hi', hp', hf', h6⟩ := first_let A n (x := ⟨i, o.path ++ [o.many], p, p, "block", .non⟩) h5 rfl hl (by simp; omega) (by omega) hs hL1 (m_TextWalk_begin_item A f)
      have eo := opR_first A h5 hl (i := i) (isAt_no hc (by
        rw [show tl ("+*" : Str) = [43, 42] from by decide +kernel]
        simp only [List.mem_cons, List.not_mem_nil, or_false]
        omega)) (isAt_no hc (by
        rw [show tl (")" : Str) = [41] from by decide +kernel]
        simp only [List.mem_cons, List.not_mem_nil, or_false]
        omega)) e6
      obtain ⟨S8, k8, rs2, t8, hk8, h8, hrs2⟩ := hxs (d := d) h6 hl hasc gs (by omega) (by simp only [List.length_append, List.length_cons, List.length_nil]; omega) (by simp only [List.length_append, List.length_cons, List.length_nil]; omega) (by simp only [List.length_append, List.length_cons, List.length_nil]; omega) hL2 hst3
      have h8' : PS A S0 S8 t L (p + 1 + (tl s).length + 2 + (sp xs).length) r q (rs ++ x' :: rs2) ((pl ++ [⟨o.i, o.path, o.row, o.many + 1⟩]) ++ [⟨j, o.path ++ [o.many], .ref i, 0 + xs.length⟩]) := by
        have := h8
        rw [List.append_assoc] at this
        exact this
      obtain ⟨S9, t9, h9⟩ := turn_close A n h8' hl (by rw [hi']) h41
      have hlen : (wl (.lt s xs)).length = 1 + (tl s).length + 2 + (sp xs).length + 1 := by
        rw [hw]
        simp only [List.length_cons, List.length_append, List.length_nil]
        omega
      refine ⟨S6, S9, k8 + 1, ⟨x'.i, x'.path, x'.first, p + 1 + (tl s).length + 2 + (sp xs).length + 1, x'.kind, x'.val⟩ :: rs2, begin_of A (e5.trans eo), t8.trans t9, by rw [hlen]; omega, ?_, ?_⟩
      · have : p + (wl (.lt s xs)).length = p + 1 + (tl s).length + 2 + (sp xs).length + 1 := by rw [hlen]; omega
        rw [this]
        exact h9
      · rw [List.map_cons, hrs2, spn, ep, hlen]
        have : p + (1 + (tl s).length + 2 + (sp xs).length + 1) = p + 1 + (tl s).length + 2 + (sp xs).length + 1 := by omega
        rw [this]
        simp only [rowOf, hp', hf']
end K68
end

section
set_option Elab.async false
set_option linter.all false
set_option maxRecDepth 100000
set_option maxHeartbeats 4000000
namespace K68
open PySem PySem.Spec PyProof.Rows L2 Fx TL
mutual
theorem bi_all (A : Ads) (n : Ne A) : ∀ x : It, BI A x
  | .num i => bi_leaf A n rfl
  | .lost => bi_leaf A n rfl
  | .use s => bi_leaf A n rfl
  | .grp 0 [] => bi_empty A n
  | .grp 0 (x :: xs) => bi_blk A n (bi_all A n x) (si_all A n xs)
  | .grp 1 xs => bi_sgn A n (c := 43) (kd := "sum") (si_all A n xs) (by rw [wl]) rfl (by decide +kernel) (by decide +kernel)
  | .grp (k + 2) xs => bi_sgn A n (c := 42) (kd := "product") (si_all A n xs) (by rw [wl] <;> simp) rfl (by decide +kernel) (by decide +kernel)
  | .lt s xs => bi_lt A n (si_all A n xs)
theorem si_all (A : Ads) (n : Ne A) : ∀ xs : List It, SI A xs
  | [] => si_nil A
  | x :: xs => si_cons A n (bi_all A n x) (si_all A n xs)
end
/-- the whole text's items -/
theorem run_all (A : Ads) (n : Ne A) {S0 S : Sto} {t : Nat} {L : List Nat} {r q : Nat} {o : Op} {x : It} {xs : List It} {tail : List Nat} (h : PS A S0 S t L 0 r q [] [o]) (ho : o.path = []) (hm : o.many = 0) (hasc : ∀ c ∈ L, c < 1114112) (g : Goods 3 (x :: xs)) (hl4 : (x :: xs).length ≤ 4) (hL : L = jn (x :: xs) ++ tail) (hl : L.length ≤ 100000) (htl : tail = [] ∨ tail = [32]) :
    ∃ S1 S2 k rs', m_TextWalk_begin_item A 12 [.ref t] S = .ok .non S1 ∧ Go A t k S1 S2 ∧ k ≤ L.length ∧ PS A S0 S2 t L (jn (x :: xs)).length r q rs' [⟨o.i, [], o.row, (x :: xs).length⟩] ∧ rs'.map rowOf = spns (x :: xs) [] 0 0 := by
  obtain ⟨oi, op, orow, om⟩ := o
  subst ho hm
  have hn := spns_len [] 0 0 g
  have hN := N_le (d := 3) (by omega)
  have hm4 : (x :: xs).length * Nn 3 ≤ 4 * Nn 3 := Nat.mul_le_mul_right _ hl4
  rw [spns, List.length_append] at hn
  have hj : jn (x :: xs) = wl x ++ sp xs := rfl
  rw [hj] at hL
  have hL0 : L.drop 0 = wl x ++ (sp xs ++ tail) := by rw [List.drop_zero, hL, List.append_assoc]
  have hL1 := drop_next hL0
  have hst2 : Stop L (0 + (wl x).length + (sp xs).length) := fun c hc => by
    have hd := drop_next hL1
    have : (L.drop (0 + (wl x).length + (sp xs).length))[0]? = some c := by rw [List.getElem?_drop]; exact hc
    rw [hd] at this
    rcases htl with rfl | rfl
    · simp at this
    · left
      simpa using this.symm
  obtain ⟨S1, S2, k, rs', e1, t1, hk, h1, hrs⟩ := bi_all A n x (d := 3) (f := 12) (pl := []) h hl hasc g.1 (by decide) (by decide) (by simp) (by simp) (by simp only [List.length_nil, List.nil_append] at hn ⊢; omega) hL0 (stop_sp hL1 hst2)
  have hrl : rs'.length = (spn x ([] ++ [0]) 0).length := by rw [← hrs, List.length_map]
  obtain ⟨S3, k2, rs2, t2, hk2, h2, hrs2⟩ := si_all A n xs (d := 3) (pl := []) h1 hl hasc g.2 (by decide) (by simp) (by simp) (by simp only [List.nil_append, Nat.zero_add] at hn hrl ⊢; omega) hL1 hst2
  refine ⟨S1, S3, k + k2, rs' ++ rs2, e1, t1.trans t2, ?_, ?_, ?_⟩
  · rw [hL, List.length_append, List.length_append]
    omega
  · have h2' := h2
    have e : 0 + (wl x).length + (sp xs).length = (jn (x :: xs)).length := by rw [hj, List.length_append]; omega
    rw [e] at h2'
    have em : (0 + 1 + xs.length) = (x :: xs).length := by rw [List.length_cons]; omega
    have h2'' : PS A S0 S3 t L (jn (x :: xs)).length r q (rs' ++ rs2) [⟨oi, [], orow, 0 + 1 + xs.length⟩] := h2'
    rw [em] at h2''
    exact h2''
  · rw [List.map_append, hrs, hrs2, spns]
section
variable {A : Ads} {S0 S : Sto} {t : Nat} {L : List Nat} {p r q : Nat} {rs : List Rw} {o : Op}
/-- the loop ends at the text's end -/
theorem go_end (A : Ads) (h : PS A S0 S t L L.length r q rs [o]) (hl : L.length ≤ 100000) (N : Nat) (hN : 2 ≤ N) : whL (mT (mVar 1)) (B_TextWalk_walked_rows_1 A) N [some (.ref t), some (.bl true)] S = .nx [some (.ref t), some (.bl false)] S := by
  obtain ⟨e1, e2, e3, e4⟩ := fld_tw h.tw
  have el := len_str L S hl
  have eq := len_ref h.pw
  have c1 : mAnd (mT (mOp dEq (mUn (dFld (G_own_at A) ("own_at" : Str)) (mVar 0)) (mBlt fLen (aCons (mUn (dFld (G_own_text A) ("own_text" : Str)) (mVar 0)) aNil)))) (mT (mOp dEq (mBlt fLen (aCons (mUn (dFld (G_own_pile A) ("own_pile" : Str)) (mVar 0)) aNil)) (mC (.int 1)))) [some (.ref t)] S = .ok true S := by
    have hv : mVar 0 [some (.ref t)] S = .ok (.ref t) S := rfl
    have b1 : ((L.length : Int) == (L.length : Int)) = true := by simp
    have b2 : ((((([o] : List Op).map fun x => D.ref x.i).length : Nat) : Int) == 1) = true := by simp
    simp only [mAnd, mT, mOp, mUn, hv, mBlt, aCons, aNil_ev, Res.bind_ok, e1, e2, e4, el, eq, dEq_ii, mC_ev, b1, b2]
  have e : m_TextWalk_go_on A [.ref t] S = .ok (.bl false) S := runF_rt (sSeq_rt ((sIf_t c1).trans rfl))
  have em : mMeth (H_go_on A) ("go_on" : Str) 1 (m_TextWalk_go_on A) (mVar 0) aNil [some (.ref t), some (.bl true)] S = .ok (.bl false) S :=
    meth_ok (n := 1) (b := aNil) (mVar_ev rfl) h.tw (h_go_on A) (lk_tw_go_on ..) (aNil_ev _ _) rfl e
  have eb : B_TextWalk_walked_rows_1 A [some (.ref t), some (.bl true)] S = .nx [some (.ref t), some (.bl false)] S := sAsg_ok em
  have ec : mT (mVar 1) [some (.ref t), some (.bl true)] S = .ok true S := rfl
  have ec2 : mT (mVar 1) [some (.ref t), some (.bl false)] S = .ok false S := rfl
  obtain ⟨M, rfl⟩ : ∃ M, N = M + 1 + 1 := ⟨N - 2, by omega⟩
  rw [whL, ec]
  simp only [Res.toS, if_true, eb]
  rw [whL, ec2]
  rfl
end

theorem fldA_ok' {G : Addr → Bool} {f : Str} {t : Nat} {S S1 : Sto} {C : Addr} {fs fs' : List (Str × D)} {d : D} {o e : Ed} {Γ : En} (he : e Γ S = .ok d S1) (ho : o Γ S1 = .ok (.ref t) S1) (h : S1[t]? = some (.ins C fs)) (hG : G C = true) (hz : fs.length < 1000) (hp : putD f d fs = fs') : sFldA G f o e Γ S = .nx Γ (S1.set t (.ins C fs')) := by
  simp [sFldA, he, ho, h, hG, hz, hp, Res.toS]
/-- the walk's beginning -/
theorem tw_make (A : Ads) (n : Ne A) (S : Sto) (L : List Nat) : ∃ S', m_TextWalk___init__ A [.ref S.length, .str (Sr' L)] (S ++ [.ins A.C_TextWalk []]) = .ok .non S' ∧ PS A S S' S.length L 0 (S.length + 1) (S.length + 3) [] [⟨S.length + 2, [], .non, 0⟩] := by
  let S1 : Sto := S ++ [.ins A.C_TextWalk [("own_text", .str (Sr' L)), ("own_at", .int 0)]]
  refine ⟨S ++ [.ins A.C_TextWalk (twF L 0 (S.length + 1) (S.length + 3)), .lst [], .ins A.C_OpenItem (oiF [] .non 0), .lst [.ref (S.length + 2)]], ?_, ?_⟩
  · have g : (S ++ [O.ins A.C_TextWalk []])[S.length]? = some (.ins A.C_TextWalk []) := by simp
    have hb : big = 1000000 := rfl
    have h1 : 1 ≤ big := by omega
    have om := oi_make A (S := S ++ [.ins A.C_TextWalk [("own_text", .str (Sr' L)), ("own_at", .int 0), ("own_rows", .ref (S.length + 1))], .lst []]) [] .non
    have el : (S ++ [O.ins A.C_TextWalk [("own_text", .str (Sr' L)), ("own_at", .int 0), ("own_rows", .ref (S.length + 1))], O.lst []]).length = S.length + 2 := by simp
    rw [el] at om
    have ep : pathD [] = .tup [] := rfl
    rw [ep] at om
    have s1 : sFldA (G_own_text A) ("own_text" : Str) (mVar 0) (mVar 1) (enter 2 [.ref S.length, .str (Sr' L)]) (S ++ [.ins A.C_TextWalk []]) = .nx [some (.ref S.length), some (.str (Sr' L))] (S ++ [.ins A.C_TextWalk [("own_text", .str (Sr' L))]]) := by
      have := fldA_ok (Γ := [some (.ref S.length), some (.str (Sr' L))]) (o := mVar 0) (e := mVar 1) (f := "own_text") (d := .str (Sr' L)) (fs' := [("own_text", .str (Sr' L))]) rfl rfl g (g_own_text A) (by simp) rfl
      simpa [enter] using this
    have g2 : (S ++ [O.ins A.C_TextWalk [("own_text", .str (Sr' L))]])[S.length]? = some (.ins A.C_TextWalk [("own_text", .str (Sr' L))]) := by simp
    have s2 : sFldA (G_own_at A) ("own_at" : Str) (mVar 0) (mC (.int 0)) [some (.ref S.length), some (.str (Sr' L))] (S ++ [.ins A.C_TextWalk [("own_text", .str (Sr' L))]]) = .nx [some (.ref S.length), some (.str (Sr' L))] (S ++ [.ins A.C_TextWalk [("own_text", .str (Sr' L)), ("own_at", .int 0)]]) := by
      have := fldA_ok (Γ := [some (.ref S.length), some (.str (Sr' L))]) (o := mVar 0) (e := mC (.int 0)) (f := "own_at") (d := .int 0) (fs' := [("own_text", .str (Sr' L)), ("own_at", .int 0)]) rfl rfl g2 (g_own_at A) (by simp) (by simp [putD, kn_own_text_own_at])
      simpa using this
    have g3 : (S ++ [O.ins A.C_TextWalk [("own_text", .str (Sr' L)), ("own_at", .int 0)], O.lst []])[S.length]? = some (.ins A.C_TextWalk [("own_text", .str (Sr' L)), ("own_at", .int 0)]) := by simp
    have e3 : mLst false aNil [some (.ref S.length), some (.str (Sr' L))] (S ++ [.ins A.C_TextWalk [("own_text", .str (Sr' L)), ("own_at", .int 0)]]) = .ok (.ref (S.length + 1)) (S ++ [.ins A.C_TextWalk [("own_text", .str (Sr' L)), ("own_at", .int 0)], .lst []]) := by
      simp [mLst, mkL, Res.bind]
    have s3 : sFldA (G_own_rows A) ("own_rows" : Str) (mVar 0) (mLst false aNil) [some (.ref S.length), some (.str (Sr' L))] (S ++ [.ins A.C_TextWalk [("own_text", .str (Sr' L)), ("own_at", .int 0)]]) = .nx [some (.ref S.length), some (.str (Sr' L))] (S ++ [.ins A.C_TextWalk [("own_text", .str (Sr' L)), ("own_at", .int 0), ("own_rows", .ref (S.length + 1))], .lst []]) := by
      have := fldA_ok' (Γ := [some (.ref S.length), some (.str (Sr' L))]) (o := mVar 0) (f := "own_rows") (fs' := [("own_text", .str (Sr' L)), ("own_at", .int 0), ("own_rows", .ref (S.length + 1))]) e3 rfl g3 (g_own_rows A) (by simp) (by simp [putD, kn_own_text_own_rows, kn_own_at_own_rows])
      simpa using this
    have e4 : mLst false (aCons (mMake A.C_OpenItem 3 (m_OpenItem___init__ A) (aCons (mTup aNil) (aCons (mC .non) aNil))) aNil) [some (.ref S.length), some (.str (Sr' L))] (S ++ [.ins A.C_TextWalk [("own_text", .str (Sr' L)), ("own_at", .int 0), ("own_rows", .ref (S.length + 1))], .lst []]) = .ok (.ref (S.length + 3)) (S ++ [.ins A.C_TextWalk [("own_text", .str (Sr' L)), ("own_at", .int 0), ("own_rows", .ref (S.length + 1))], .lst [], .ins A.C_OpenItem (oiF [] .non 0), .lst [.ref (S.length + 2)]]) := by
      have om' : m_OpenItem___init__ A [.ref (S.length + 2), .tup [], .non] (S ++ [.ins A.C_TextWalk [("own_text", .str (Sr' L)), ("own_at", .int 0), ("own_rows", .ref (S.length + 1))], .lst [], .ins A.C_OpenItem []]) = .ok .non (S ++ [.ins A.C_TextWalk [("own_text", .str (Sr' L)), ("own_at", .int 0), ("own_rows", .ref (S.length + 1))], .lst [], .ins A.C_OpenItem (oiF [] .non 0)]) := by
        simpa using om
      simp [mLst, aCons, aNil, mMake, mTup, arg, om', h1, mkL, Res.bind, pathD] at om' ⊢
    have g4 : (S ++ [O.ins A.C_TextWalk [("own_text", .str (Sr' L)), ("own_at", .int 0), ("own_rows", .ref (S.length + 1))], O.lst [], O.ins A.C_OpenItem (oiF [] .non 0), O.lst [.ref (S.length + 2)]])[S.length]? = some (.ins A.C_TextWalk [("own_text", .str (Sr' L)), ("own_at", .int 0), ("own_rows", .ref (S.length + 1))]) := by simp
    have s4 := fldA_ok' (Γ := [some (.ref S.length), some (.str (Sr' L))]) (o := mVar 0) (f := "own_pile") (fs' := twF L 0 (S.length + 1) (S.length + 3)) e4 rfl g4 (g_own_pile A) (by simp) (by simp [putD, kn_own_text_own_pile, kn_own_at_own_pile, kn_own_rows_own_pile])
    have e5 := runF_nx (N := 2) (ds := [.ref S.length, .str (Sr' L)]) ((sSeq_nx s1).trans ((sSeq_nx s2).trans ((sSeq_nx s3).trans s4)))
    have es : (S ++ [O.ins A.C_TextWalk [("own_text", .str (Sr' L)), ("own_at", .int 0), ("own_rows", .ref (S.length + 1))], O.lst [], O.ins A.C_OpenItem (oiF [] .non 0), O.lst [.ref (S.length + 2)]]).set S.length (.ins A.C_TextWalk (twF L 0 (S.length + 1) (S.length + 3))) = S ++ [O.ins A.C_TextWalk (twF L 0 (S.length + 1) (S.length + 3)), .lst [], .ins A.C_OpenItem (oiF [] .non 0), .lst [.ref (S.length + 2)]] := by simp
    rw [es] at e5
    exact e5
  · refine ⟨List.prefix_append _ _, by simp, ?_, ?_, by simp, ?_, by simp, by simp, by omega, Nat.le_refl _, by omega, by omega, by simp, by simp⟩
    · rw [List.getElem?_append_right (by omega)]
      have : S.length + 1 - S.length = 1 := by omega
      rw [this]
      rfl
    · rw [List.getElem?_append_right (by omega)]
      have : S.length + 3 - S.length = 3 := by omega
      rw [this]
      rfl
    · intro x hx
      rw [List.mem_singleton.mp hx]
      show (_ : Sto)[S.length + 2]? = some (O.ins A.C_OpenItem (oiF [] .non 0))
      rw [List.getElem?_append_right (by omega)]
      have : S.length + 2 - S.length = 2 := by omega
      rw [this]
      rfl
end K68
end

section
set_option Elab.async false
set_option linter.all false
set_option maxRecDepth 100000
set_option maxHeartbeats 4000000
namespace K68
open PySem PySem.Spec PyProof.Rows L2 Fx TL
theorem names_asc {s : Str} (h : s ∈ names) : ∀ c ∈ tl s, c < 128 := by
  simp only [names, List.mem_cons, List.not_mem_nil, or_false] at h
  rcases h with rfl | rfl | rfl | rfl | rfl | rfl | rfl <;> decide +kernel
mutual
theorem wl_asc : ∀ {d : Nat} {x : It}, Good d x → ∀ c ∈ wl x, c < 128
  | d, .num i, g, c, hc => by
    have hd := numL_digits i c hc
    have : c ≤ 57 := hd.2
    omega
  | d, .lost, g, c, hc => by
    have : c = 63 := by simpa [wl] using hc
    omega
  | d, .use s, g, c, hc => names_asc (by cases d <;> exact g) c hc
  | 0, .grp _ _, g, _, _ => g.elim
  | 0, .lt _ _, g, _, _ => g.elim
  | d + 1, .grp 0 [], g, c, hc => by
    have : c = 40 ∨ c = 41 := by simpa [wl] using hc
    omega
  | d + 1, .grp 0 (x :: xs), g, c, hc => by
    have h1 := wl_asc g.2.2.1
    have h2 := sp_asc g.2.2.2
    rw [wl] at hc
    simp only [List.mem_cons, List.mem_append, List.not_mem_nil, or_false] at hc
    rcases hc with rfl | hc | hc | rfl
    · omega
    · exact h1 c hc
    · exact h2 c hc
    · omega
  | d + 1, .grp 1 xs, g, c, hc => by
    have h2 := sp_asc g.2.2
    rw [wl] at hc
    simp only [List.mem_cons, List.mem_append, List.not_mem_nil, or_false] at hc
    rcases hc with rfl | rfl | hc | rfl
    · omega
    · omega
    · exact h2 c hc
    · omega
  | d + 1, .grp (k + 2) xs, g, c, hc => by
    have h2 := sp_asc g.2.2
    have hw : wl (.grp (k + 2) xs) = 40 :: 42 :: (sp xs ++ [41]) := by rw [wl] <;> simp
    rw [hw] at hc
    simp only [List.mem_cons, List.mem_append, List.not_mem_nil, or_false] at hc
    rcases hc with rfl | rfl | hc | rfl
    · omega
    · omega
    · exact h2 c hc
    · omega
  | d + 1, .lt s xs, g, c, hc => by
    have h1 := names_asc g.1
    have h2 := sp_asc g.2.2
    rw [wl] at hc
    simp only [List.mem_cons, List.mem_append, List.not_mem_nil, or_false] at hc
    rcases hc with rfl | hc | rfl | rfl | hc | rfl
    · omega
    · exact h1 c hc
    · omega
    · omega
    · exact h2 c hc
    · omega
theorem sp_asc : ∀ {d : Nat} {xs : List It}, Goods d xs → ∀ c ∈ sp xs, c < 128
  | d, [], g, c, hc => by rw [sp] at hc; cases hc
  | d, x :: xs, g, c, hc => by
    have h1 := wl_asc g.1
    have h2 := sp_asc g.2
    rw [sp] at hc
    simp only [List.mem_cons, List.mem_append] at hc
    rcases hc with rfl | hc | hc
    · omega
    · exact h1 c hc
    · exact h2 c hc
end
theorem jn_asc {d : Nat} {xs : List It} (g : Goods d xs) : ∀ c ∈ jn xs, c < 128 := by
  cases xs with
  | nil => intro c hc; cases hc
  | cons x xs =>
    intro c hc
    rcases List.mem_append.mp hc with hc | hc
    · exact wl_asc g.1 c hc
    · exact sp_asc g.2 c hc
theorem jn_len {xs : List It} (g : Goods 3 xs) (hl : xs.length ≤ 4) : (jn xs).length ≤ 2000 := by
  have h1 := sp_len g
  have h2 : Wd' 3 = 251 := rfl
  have hm : xs.length * (Wd' 3 + 1) ≤ 4 * (Wd' 3 + 1) := Nat.mul_le_mul_right _ hl
  cases xs with
  | nil => exact Nat.zero_le _
  | cons x xs =>
    have : (jn (x :: xs)).length ≤ (sp (x :: xs)).length := by simp [jn, sp]
    omega
section
variable {A : Ads} {S0 S : Sto} {t : Nat} {L : List Nat} {p r q : Nat} {rs : List Rw} {pl : List Op} {o : Op}
theorem ne_empty (A : Ads) (h : PS A S0 S t L p r q rs pl) (hasc : ∀ c ∈ L, c < 128) : mT (mOp dNe (mUn (dFld (G_own_text A) ("own_text" : Str)) (mVar 0)) (mC (.str ("" : Str)))) [some (.ref t), none] S = .ok (!(L.isEmpty)) S := by
  have e1 := (fld_tw h.tw).1
  have hok : PyData.strOk (Sr' L) = true := strOk_of fun c hc => by have := hasc c hc; omega
  have hq := dNe_str hok (by decide +kernel : PyData.strOk ("" : Str) = true) S
  have hz : ("" : Str) = Sr' [] := ext_tl (by decide +kernel)
  have hb : (Sr' L == ("" : Str)) = L.isEmpty := by
    rw [hz]
    cases L with
    | nil => simp
    | cons c l =>
      show _ = false
      rw [beq_eq_false_iff_ne]
      intro z
      have z := congrArg tl z
      rw [tl_mk, tl_mk] at z
      cases z
  rw [hb] at hq
  have hv : mVar 0 [some (.ref t), none] S = .ok (.ref t) S := rfl
  simp only [mT, mOp, mUn, hv, Res.bind_ok, e1, mC_ev, hq]
theorem ret_rows (A : Ads) (h : PS A S0 S t L p r q rs pl) (x : Option D) : sRet (mUn (dFld (G_own_rows A) ("own_rows" : Str)) (mVar 0)) [some (.ref t), x] S = .rt (.ref r) S := by
  have e := (fld_tw h.tw).2.2.1
  simp [sRet, mUn, mVar, e, Res.bind, Res.toS]
end
theorem walked_ev (A : Ads) (n : Ne A) {S0 S : Sto} {t r q : Nat} {o : Op} {its : List It} (g : Goods 3 its) (hl4 : its.length ≤ 4) (h : PS A S0 S t (jn its) 0 r q [] [o]) (ho : o.path = []) (hm : o.many = 0) :
    ∃ (S' : Sto) (rs : List Rw), m_TextWalk_walked_rows A [.ref t] S = .ok (.ref r) S' ∧ S0 <+: S' ∧ S'[r]? = some (.lst (rs.map fun x => D.ref x.i)) ∧ (∀ x ∈ rs, S'[x.i]? = some (Rw.o A x)) ∧ rs.map rowOf = spns its [] 0 0 := by
  have hasc := jn_asc g
  have hlen := jn_len g hl4
  have c1 := ne_empty A h hasc
  cases its with
  | nil =>
    have c1 : mT (mOp dNe (mUn (dFld (G_own_text A) ("own_text" : Str)) (mVar 0)) (mC (.str ("" : Str)))) (enter 2 [.ref t]) S = .ok false S := c1
    exact ⟨S, [], runF_rt ((sSeq_nx ((sIf_f c1).trans rfl)).trans (ret_rows A h _)), h.base, h.rw', (by intro x hx; cases hx), (by unfold spns; rfl)⟩
  | cons x xs =>
    obtain ⟨c, l, ec, _⟩ := head_ne g.1
    have hne : (jn (x :: xs)).isEmpty = false := by
      have : jn (x :: xs) = c :: (l ++ sp xs) := by
        show wl x ++ sp xs = _
        rw [ec]
        rfl
      rw [this]
      rfl
    rw [hne] at c1
    have c1 : mT (mOp dNe (mUn (dFld (G_own_text A) ("own_text" : Str)) (mVar 0)) (mC (.str ("" : Str)))) (enter 2 [.ref t]) S = .ok true S := c1
    obtain ⟨S1, S2, k, rs', e1, t1, hk, h2, hrs⟩ := run_all A n h ho hm (fun c hc => by have := hasc c hc; omega) g hl4 (tail := []) (by simp) (by omega) (.inl rfl)
    have em : mMeth (H_begin_item A) ("begin_item" : Str) 1 (m_TextWalk_begin_item A 12) (mVar 0) aNil [some (.ref t), none] S = .ok .non S1 :=
      meth_ok (n := 1) (b := aNil) (mVar_ev rfl) h.tw (h_begin_item A) (lk_tw_begin_item ..) (aNil_ev _ _) rfl e1
    have hb : big = 1000000 := rfl
    obtain ⟨N, hN⟩ : ∃ N, big = k + N := ⟨big - k, by omega⟩
    have hN2 : 2 ≤ N := by omega
    have ew : sWhile big (mT (mVar 1)) (B_TextWalk_walked_rows_1 A) [some (.ref t), some (.bl true)] S1 = .nx [some (.ref t), some (.bl false)] S2 := by
      unfold sWhile
      rw [hN, t1 N]
      exact go_end A h2 (by omega) N hN2
    have sa : sAsg (gN 1) (mC (.bl true)) [some (.ref t), none] S1 = .nx [some (.ref t), some (.bl true)] S1 := rfl
    exact ⟨S2, rs', runF_rt ((sSeq_nx ((sIf_t c1).trans ((sSeq_nx (sDrop_ok em)).trans ((sSeq_nx sa).trans ew)))).trans (ret_rows A h2 _)), h2.base, h2.rw', h2.ro, hrs⟩
end K68
end

section
set_option Elab.async false
set_option linter.all false
set_option maxRecDepth 100000
set_option maxHeartbeats 4000000
namespace K68
open PySem PySem.Spec PyProof.Rows L2 Fx TL
theorem meth_ok3 {H : Addr → Bool} {m : Str} {n t : Nat} {fn : Fn} {a : Ed} {b : Ad} {Γ : En} {S S0 S1 : Sto} {C : Addr} {fs : List (Str × D)} {ds : List D} {r : Res D} (ha : a Γ S0 = .ok (.ref t) S) (h : S[t]? = some (.ins C fs)) (hG : H C = true) (hl : fs.lookup m = none) (hb : b Γ S = .ok ds S1) (hn : ds.length + 1 = n) (hr : fn (.ref t :: ds) S1 = r) : mMeth H m n fn a b Γ S0 = r := by
  simp [mMeth, dMeth, ha, h, hG, hl, hb, arg, hn, hr, Res.bind]
theorem rowsOf_ev (A : Ads) (n : Ne A) {its : List It} (g : Goods 3 its) (hl4 : its.length ≤ 4) (S : Sto) :
    ∃ (r : Nat) (S' : Sto) (rs : List Rw), m_rows_of_text A [.str (Sr' (jn its))] S = .ok (.ref r) S' ∧ S <+: S' ∧ S'[r]? = some (.lst (rs.map fun x => D.ref x.i)) ∧ (∀ x ∈ rs, S'[x.i]? = some (Rw.o A x)) ∧ rs.map rowOf = spns its [] 0 0 := by
  obtain ⟨S1, e1, h1⟩ := tw_make A n S (jn its)
  obtain ⟨S2, rs, e2, b2, hr, ho, hrs⟩ := walked_ev A n g hl4 h1 rfl rfl
  have em : mMake A.C_TextWalk 2 (m_TextWalk___init__ A) (aCons (mVar 0) aNil) [some (.str (Sr' (jn its)))] S = .ok (.ref S.length) S1 := by
    have ea : aCons (mVar 0) aNil [some (.str (Sr' (jn its)))] S = .ok [.str (Sr' (jn its))] S := rfl
    simp [mMake, ea, Res.bind, arg, e1]
  have ec : mT (mIsi "str" (mVar 0)) [some (.str (Sr' (jn its)))] S = .ok true S := rfl
  have ew := meth_ok3 (m := ("walked_rows" : Str)) (n := 1) (b := aNil) em h1.tw (h_walked_rows A) (lk_tw_walked_rows ..) (aNil_ev _ _) rfl e2
  have er : sRet (mMeth (H_walked_rows A) ("walked_rows" : Str) 1 (m_TextWalk_walked_rows A) (mMake A.C_TextWalk 2 (m_TextWalk___init__ A) (aCons (mVar 0) aNil)) aNil) [some (.str (Sr' (jn its)))] S = .rt (.ref (S.length + 1)) S2 := by
    simp [sRet, ew, Res.toS]
  exact ⟨_, S2, rs, runF_rt ((sSeq_nx ((sIf_f (mNot_ok ec)).trans rfl)).trans er), b2, hr, ho, hrs⟩
end K68
end

section
set_option Elab.async false
set_option linter.all false
set_option maxRecDepth 100000
set_option maxHeartbeats 4000000
namespace K68
open PySem PySem.Spec PyProof.Rows L2 Fx TL
theorem row_tup (A : Ads) {Γ : En} {S : Sto} {x : Rw} (h : S[x.i]? = some (Rw.o A x)) (hv : mVar 1 Γ S = .ok (.ref x.i) S) :
    mTup (aCons (mUn (dFld (G_own_path A) ("own_path" : Str)) (mVar 1)) (aCons (mUn (dFld (G_own_first A) ("own_first" : Str)) (mVar 1)) (aCons (mUn (dFld (G_own_behind A) ("own_behind" : Str)) (mVar 1)) aNil))) Γ S = .ok (rowD (rowOf x)) S := by
  have a1 : dFld (G_own_path A) ("own_path" : Str) (.ref x.i) S = .ok (pathD x.path) S := dFld_ok h (gi_own_path A) (lk_ir_own_path ..)
  have a2 : dFld (G_own_first A) ("own_first" : Str) (.ref x.i) S = .ok (.int x.first) S := dFld_ok h (by simp [G_own_first]) (lk_ir_own_first ..)
  have a3 : dFld (G_own_behind A) ("own_behind" : Str) (.ref x.i) S = .ok (.int x.behind) S := dFld_ok h (by simp [G_own_behind]) (lk_ir_own_behind ..)
  simp only [mTup, aCons, aNil, mUn, hv, Res.bind_ok, a1, a2, a3]
  rfl
theorem paired_rows {rs : List Rw} : ∀ {ys : List D}, Paired (fun d y => ∀ x ∈ rs, d = .ref x.i → y = rowD (rowOf x)) (rs.map fun x => D.ref x.i) ys → ys = rowsD (rs.map rowOf) := by
  suffices h : ∀ (l : List Rw), (∀ x ∈ l, x ∈ rs) → ∀ {ys : List D}, Paired (fun d y => ∀ x ∈ rs, d = .ref x.i → y = rowD (rowOf x)) (l.map fun x => D.ref x.i) ys → ys = rowsD (l.map rowOf) from fun {ys} hp => h rs (fun _ hx => hx) hp
  intro l
  induction l with
  | nil => intro _ ys hp; cases hp; rfl
  | cons x l ih =>
    intro hs ys hp
    cases hp with
    | cons h1 h2 =>
      rw [h1 x (hs x List.mem_cons_self) rfl, ih (fun y hy => hs y (List.mem_cons_of_mem _ hy)) h2]
      rfl
theorem spansOf_ev (A : Ads) (n : Ne A) {its : List It} (g : Goods 3 its) (hl4 : its.length ≤ 4) (S : Sto) :
    ∃ S', m_spans_of A [.str (Sr' (jn its))] S = .ok (.lst (rowsD (spns its [] 0 0))) S' ∧ S <+: S' := by
  obtain ⟨r, S1, rs, e1, b1, hr, ho, hrs⟩ := rowsOf_ev A n g hl4 S
  have hN := spns_len [] 0 0 g
  have hlen : rs.length = (spns its [] 0 0).length := by rw [← hrs, List.length_map]
  have hsz : rs.length ≤ big := by
    have hb : big = 1000000 := rfl
    have h3 : Nn 3 = 40 := rfl
    have hm : its.length * Nn 3 ≤ 4 * Nn 3 := Nat.mul_le_mul_right _ hl4
    omega
  have ea : aCons (mVar 0) aNil (enter 2 [.str (Sr' (jn its))]) S = .ok [.str (Sr' (jn its))] S := rfl
  have ec : mCall 1 (m_rows_of_text A) (aCons (mVar 0) aNil) (enter 2 [.str (Sr' (jn its))]) S = .ok (.ref r) S1 := by
    simp only [mCall, ea, Res.bind_ok, arg, e1, List.length_cons, List.length_nil, if_true]
  have eq : iSeq (mCall 1 (m_rows_of_text A) (aCons (mVar 0) aNil)) (enter 2 [.str (Sr' (jn its))]) S = .ok (.seq (.ref r)) S1 := by
    simp only [iSeq, ec, Res.bind_ok, dL, hr]
  have hlS : lenS (.seq (.ref r)) S1 = (rs.map fun x => D.ref x.i).length - 0 + 1 := by
    simp [lenS, dL, hr]
  obtain ⟨ys, S2, e2, hS, hp⟩ := lcL_all (s := .seq (.ref r)) (tg := gN 1) (Γ := wipeE (enter 2 [.str (Sr' (jn its))]) [1]) (elt := mTup (aCons (mUn (dFld (G_own_path A) ("own_path" : Str)) (mVar 1)) (aCons (mUn (dFld (G_own_first A) ("own_first" : Str)) (mVar 1)) (aCons (mUn (dFld (G_own_behind A) ("own_behind" : Str)) (mVar 1)) aNil)))) (P := fun S => S = S1) (R := fun d y => ∀ x ∈ rs, d = .ref x.i → y = rowD (rowOf x)) (rs.map fun x => D.ref x.i)
    (fun i S hS => by subst hS; simp [itS, dL, hr])
    (fun d hd S hS => by
      subst hS
      obtain ⟨x, hx, rfl⟩ := List.mem_map.mp hd
      refine ⟨[some (.str (Sr' (jn its))), some (.ref x.i)], rfl, rowD (rowOf x), S, row_tup A (ho x hx) rfl, rfl, fun x' hx' e => ?_⟩
      have e : x.i = x'.i := by simpa using e
      have h1 := ho x hx
      rw [e] at h1
      have h2 := row_tup A (x := ⟨x'.i, x.path, x.first, x.behind, x.kind, x.val⟩) (Γ := [none, some (.ref x'.i)]) h1 rfl
      have h3 := row_tup A (Γ := [none, some (.ref x'.i)]) (ho x' hx') rfl
      rw [h2] at h3
      exact (Res.ok.inj h3).1)
    (by simpa using hsz) _ 0 [] S1 rfl (Nat.zero_le _) hlS rfl
  subst hS
  have hy := paired_rows (by simpa using hp)
  rw [hrs] at hy
  subst hy
  refine ⟨_, runF_rt ?_, b1⟩
  simp only [sRet, mLc, eq, Res.bind_ok, e2, List.nil_append, mkL, Res.toS]
end K68
end

section
set_option Elab.async false
set_option linter.all false
set_option maxRecDepth 100000
set_option maxHeartbeats 4000000
namespace K68
open PySem PySem.Spec PyProof.Rows L2 Fx TL
def Cmp (d : D) (n : Nat) : Prop := ∃ p, toPy d = some p ∧ p.canLay0 = true ∧ p.depth ≤ n
def CmpL (ds : List D) (n : Nat) : Prop := ∃ ps, toPys ds = some ps ∧ PyData.canLayAll0 ps = true ∧ PyData.depthAll ps ≤ n
theorem CmpL.nil (n : Nat) : CmpL [] n := ⟨[], rfl, rfl, Nat.zero_le _⟩
theorem CmpL.cons {d : D} {ds : List D} {n : Nat} (h : Cmp d n) (t : CmpL ds n) : CmpL (d :: ds) n := by
  obtain ⟨p, e, c, z⟩ := h
  obtain ⟨ps, e', c', z'⟩ := t
  refine ⟨p :: ps, ?_, ?_, ?_⟩
  · rw [toPys, e, e']
  · rw [PyData.canLayAll0, c, c']; rfl
  · rw [PyData.depthAll]; exact Nat.max_le.mpr ⟨z, z'⟩
theorem CmpL.map {α : Type} {f : α → D} {n : Nat} : ∀ {l : List α}, (∀ x ∈ l, Cmp (f x) n) → CmpL (l.map f) n
  | [], _ => .nil n
  | x :: l, h => .cons (h x List.mem_cons_self) (CmpL.map fun y hy => h y (List.mem_cons_of_mem _ hy))
theorem Cmp.tup {ds : List D} {n : Nat} (h : CmpL ds n) : Cmp (.tup ds) (n + 1) := by
  obtain ⟨ps, e, c, z⟩ := h
  refine ⟨.tuple ps, ?_, ?_, ?_⟩
  · rw [toPy, e]; rfl
  · rw [PyData.canLay0]; exact c
  · rw [PyData.depth]; omega
theorem Cmp.lst {ds : List D} {n : Nat} (h : CmpL ds n) : Cmp (.lst ds) (n + 1) := by
  obtain ⟨ps, e, c, z⟩ := h
  refine ⟨.list ps, ?_, ?_, ?_⟩
  · rw [toPy, e]; rfl
  · rw [PyData.canLay0]; exact c
  · rw [PyData.depth]; omega
theorem Cmp.int (i : Int) (n : Nat) : Cmp (.int i) n := ⟨.int i, rfl, rfl, Nat.zero_le _⟩
theorem Cmp.bl (i : Bool) (n : Nat) : Cmp (.bl i) n := ⟨.bool i, rfl, rfl, Nat.zero_le _⟩
theorem Cmp.non (n : Nat) : Cmp .non n := ⟨.none, rfl, rfl, Nat.zero_le _⟩
theorem Cmp.str {x : Str} (h : PyData.strOk x = true) (n : Nat) : Cmp (.str x) n := ⟨.str x, rfl, by rw [PyData.canLay0]; exact h, Nat.zero_le _⟩
theorem cmp_path (p : List Nat) (n : Nat) : Cmp (pathD p) (n + 1) := .tup (.map fun _ _ => .int _ _)
theorem cmp_row (r : Row) (n : Nat) : Cmp (rowD r) (n + 2) := .tup (.cons (cmp_path _ _) (.cons (.int _ _) (.cons (.int _ _) (.nil _))))
theorem cmp_rows (l : List Row) (n : Nat) : CmpL (rowsD l) (n + 2) := .map fun r _ => cmp_row r n
theorem toPyS_of {S : Sto} {d : D} {p : PyData} (h : toPy d = some p) : toPyS S d = some p := by
  cases d with
  | ref n => cases h
  | _ => exact h
theorem dNe_same {d : D} (h : Cmp d 60) (S : Sto) : dNe d d S = .ok (.bl false) S := by
  obtain ⟨p, e, c, z⟩ := h
  have hs : SeqAt.shaped p = true := by
    unfold SeqAt.shaped
    rw [c]
    simp
    omega
  simp only [dEqG, toPyS_of e, hs, and_self, if_true, SeqAt.eqv_refl p c, Bool.not_true]
theorem dNe_rows {l : List Row} {m : Nat} {S : Sto} (h : S[m]? = some (.lst (rowsD l))) : dNe (.lst (rowsD l)) (.ref m) S = .ok (.bl false) S := by
  obtain ⟨ps, e, c, z⟩ := cmp_rows l 0
  have c' : PyData.canLay0 (.list ps) = true := by rw [PyData.canLay0]; exact c
  have hs : SeqAt.shaped (.list ps) = true := by
    unfold SeqAt.shaped
    rw [c']
    have : PyData.depth (.list ps) ≤ 64 := by rw [PyData.depth]; omega
    simpa using this
  have e1 : toPyS S (.lst (rowsD l)) = some (.list ps) := by
    show toPy _ = _
    rw [toPy, e]; rfl
  have e2 : toPyS S (.ref m) = some (.list ps) := by
    simp only [toPyS, h, e]; rfl
  simp only [dEqG, e1, e2, hs, and_self, if_true, SeqAt.eqv_refl _ c', Bool.not_true]
theorem wl_pos {d : Nat} {x : It} (g : Good d x) : 1 ≤ (wl x).length := by
  obtain ⟨c, l, e, _⟩ := head_ne g
  rw [e]
  exact Nat.succ_le_succ (Nat.zero_le _)
theorem wl_grp (k : Nat) (xs : List It) : xs = [] ∨ (wl (.grp k xs)).length = off k + (sp xs).length := by
  cases k with
  | zero => cases xs with
    | nil => exact .inl rfl
    | cons x xs =>
      refine .inr ?_
      rw [wl, sp]
      simp [off]
      omega
  | succ k =>
    refine .inr ?_
    cases k with
    | zero => rw [wl]; simp [off]; omega
    | succ k =>
      have hw : wl (.grp (k + 2) xs) = 40 :: 42 :: (sp xs ++ [41]) := by rw [wl] <;> simp
      rw [hw]; simp [off]; omega
theorem wl_lt (s : Str) (xs : List It) : (wl (.lt s xs)).length = (tl s).length + 4 + (sp xs).length := by
  rw [wl]; simp; omega
theorem goods_grp {d k : Nat} {xs : List It} (g : Good (d + 1) (.grp k xs)) : Goods d xs := by
  cases k with
  | zero => exact g.2.2
  | succ k => exact g.2.2
mutual
theorem spn_in : ∀ {d : Nat} {x : It} (p : List Nat) (f : Nat), Good d x → ∀ r ∈ spn x p f, r.2.1 < r.2.2 ∧ r.2.2 ≤ f + (wl x).length
  | d, .num i, p, f, g, r, hr => by
    have : r = (p, f, f + (wl (.num i)).length) := by simpa [spn] using hr
    subst this
    have := wl_pos g
    simp; omega
  | d, .lost, p, f, g, r, hr => by
    have : r = (p, f, f + (wl .lost).length) := by simpa [spn] using hr
    subst this
    have := wl_pos g
    simp; omega
  | d, .use s, p, f, g, r, hr => by
    have : r = (p, f, f + (wl (.use s)).length) := by simpa [spn] using hr
    subst this
    have := wl_pos g
    simp; omega
  | 0, .grp _ _, p, f, g, _, _ => g.elim
  | 0, .lt _ _, p, f, g, _, _ => g.elim
  | d + 1, .grp k xs, p, f, g, r, hr => by
    have := wl_pos g
    rw [spn] at hr
    rcases List.mem_cons.mp hr with rfl | hr
    · simp; omega
    · have g' : Goods d xs := goods_grp g
      rcases wl_grp k xs with rfl | e
      · rw [spns] at hr; cases hr
      · have := spns_in _ _ _ g' r hr
        omega
  | d + 1, .lt s xs, p, f, g, r, hr => by
    have := wl_pos g
    rw [spn] at hr
    rcases List.mem_cons.mp hr with rfl | hr
    · simp; omega
    · have := spns_in _ _ _ g.2.2 r hr
      have e := wl_lt s xs
      omega
theorem spns_in : ∀ {d : Nat} {xs : List It} (p : List Nat) (k f : Nat), Goods d xs → ∀ r ∈ spns xs p k f, r.2.1 < r.2.2 ∧ r.2.2 + 1 ≤ f + (sp xs).length
  | d, [], _, _, _, _, r, hr => by rw [spns] at hr; cases hr
  | d, x :: xs, p, k, f, g, r, hr => by
    rw [spns] at hr
    rw [sp]
    have e : (32 :: (wl x ++ sp xs)).length = 1 + (wl x).length + (sp xs).length := by simp; omega
    rw [e]
    rcases List.mem_append.mp hr with hr | hr
    · have := spn_in _ _ g.1 r hr
      omega
    · have := spns_in _ _ _ g.2 r hr
      omega
end
end K68
end

section
set_option Elab.async false
set_option linter.all false
set_option maxRecDepth 100000
set_option maxHeartbeats 4000000
namespace K68
open PySem PySem.Spec PyProof.Rows L2 Fx TL
def bst (at' : Nat) : List Row → D → D
  | [], w => w
  | r :: l, w => bst at' l (if r.2.1 ≤ at' ∧ at' < r.2.2 then pathD r.1 else w)
theorem ch_ev {a b c : Ed} {Γ : En} {S : Sto} {x y z : Nat} (ha : a Γ S = .ok (.int x) S) (hb : b Γ S = .ok (.int y) S) (hc : c Γ S = .ok (.int z) S) : mT (mCh dLe dLt a b c) Γ S = .ok (decide (x ≤ y ∧ y < z)) S := by
  have h1 : ((x : Int) ≤ (y : Int)) ↔ x ≤ y := Int.ofNat_le
  have h2 : ((y : Int) < (z : Int)) ↔ y < z := Int.ofNat_lt
  by_cases q : x ≤ y <;> by_cases p : y < z <;> simp [mT, mCh, ha, hb, hc, dII, q, p, Res.bind]
theorem row_turn (A : Ads) {S : Sto} {x : Rw} (h : S[x.i]? = some (Rw.o A x)) (t q w : Option D) (a : Nat) (w' : D) :
    B_item_at_1 A [t, some (.int a), q, some w', some (.ref x.i)] S = .nx [t, some (.int a), q, some (if x.first ≤ a ∧ a < x.behind then pathD x.path else w'), some (.ref x.i)] S := by
  have a1 : dFld (G_own_path A) ("own_path" : Str) (.ref x.i) S = .ok (pathD x.path) S := dFld_ok h (gi_own_path A) (lk_ir_own_path ..)
  have a2 : dFld (G_own_first A) ("own_first" : Str) (.ref x.i) S = .ok (.int x.first) S := dFld_ok h (by simp [G_own_first]) (lk_ir_own_first ..)
  have a3 : dFld (G_own_behind A) ("own_behind" : Str) (.ref x.i) S = .ok (.int x.behind) S := dFld_ok h (by simp [G_own_behind]) (lk_ir_own_behind ..)
  have hv : mVar 4 [t, some (.int a), q, some w', some (.ref x.i)] S = .ok (.ref x.i) S := rfl
  have e1 : mUn (dFld (G_own_first A) ("own_first" : Str)) (mVar 4) [t, some (.int a), q, some w', some (.ref x.i)] S = .ok (.int x.first) S := by simp only [mUn, hv, Res.bind_ok, a2]
  have e2 : mUn (dFld (G_own_behind A) ("own_behind" : Str)) (mVar 4) [t, some (.int a), q, some w', some (.ref x.i)] S = .ok (.int x.behind) S := by simp only [mUn, hv, Res.bind_ok, a3]
  have e3 : mUn (dFld (G_own_path A) ("own_path" : Str)) (mVar 4) [t, some (.int a), q, some w', some (.ref x.i)] S = .ok (pathD x.path) S := by simp only [mUn, hv, Res.bind_ok, a1]
  have ec := ch_ev e1 (rfl : mVar 1 [t, some (.int a), q, some w', some (.ref x.i)] S = .ok (.int a) S) e2
  unfold B_item_at_1
  by_cases z : x.first ≤ a ∧ a < x.behind
  · rw [decide_eq_true z] at ec
    rw [sIf_t ec, if_pos z]
    exact sAsg_ok e3
  · rw [decide_eq_false z] at ec
    rw [sIf_f ec, if_neg z]
    rfl
theorem rows_loop (A : Ads) {S : Sto} {rs : List Rw} {r : Nat} (hr : S[r]? = some (.lst (rs.map fun x => D.ref x.i))) (ho : ∀ x ∈ rs, S[x.i]? = some (Rw.o A x)) (hb : rs.length ≤ big) (t : Option D) (a : Nat) (w : D) :
    ∃ x4, sFor (iSeq (mVar 2)) (gN 4) (B_item_at_1 A) [t, some (.int a), some (.ref r), some w, none] S = .nx [t, some (.int a), some (.ref r), some (bst a (rs.map rowOf) w), x4] S := by
  let I : Nat → En → Sto → Prop := fun i Γ S' => S' = S ∧ ∃ w' x4, Γ = [t, some (.int a), some (.ref r), some w', x4] ∧ bst a (rs.map rowOf) w = bst a ((rs.drop i).map rowOf) w'
  have eq : iSeq (mVar 2) [t, some (.int a), some (.ref r), some w, none] S = .ok (.seq (.ref r)) S := by
    have hv : mVar 2 [t, some (.int a), some (.ref r), some w, none] S = .ok (.ref r) S := rfl
    simp only [iSeq, hv, Res.bind_ok, dL, hr]
  have hlS : lenS (.seq (.ref r)) S = rs.length + 1 := by
    simp [lenS, dL, hr]
  obtain ⟨Γ', S', e, hS, w', x4, rfl, h4⟩ := lpF_all (s := .seq (.ref r)) (tg := gN 4) (b := B_item_at_1 A) (I := I) (rs.map fun x => D.ref x.i)
    (fun i Γ S1 hI => by obtain ⟨rfl, _⟩ := hI; simp [itS, dL, hr])
    (fun i hi Γ S1 hI => by
      obtain ⟨rfl, w', x4, rfl, h4⟩ := hI
      have hi' : i < rs.length := by simpa using hi
      have hx : (rs.map fun x => D.ref x.i)[i] = .ref rs[i].i := by simp
      refine ⟨[t, some (.int a), some (.ref r), some w', some (.ref rs[i].i)], by rw [hx]; rfl, _, _, row_turn A (ho _ (List.getElem_mem hi')) _ _ none a w', rfl, _, _, rfl, ?_⟩
      rw [h4, List.drop_eq_getElem_cons hi', List.map_cons, bst])
    (rs.length + 1) 0 [t, some (.int a), some (.ref r), some w, none] S ⟨rfl, w, none, rfl, rfl⟩ (Nat.zero_le _) (by simp)
  subst hS
  refine ⟨x4, ?_⟩
  have hd : rs.drop (rs.map fun x => D.ref x.i).length = [] := List.drop_eq_nil_of_le (by simp)
  rw [hd, List.map_nil, bst] at h4
  rw [h4]
  simp only [sFor, eq, Res.toS_ok, hlS]
  exact e
end K68
end

section
set_option Elab.async false
set_option linter.all false
set_option maxRecDepth 100000
set_option maxHeartbeats 4000000
namespace K68
open PySem PySem.Spec PyProof.Rows L2 Fx TL
def IsD : D → Int → Bool
  | .int i, m => decide (0 ≤ i) && decide (i ≤ m)
  | _, _ => false
def Plain : D → Prop
  | .int _ | .bl _ | .non | .str _ => True
  | _ => False
theorem whole_ev (A : Ads) {d : D} (h : Plain d) (S : Sto) : m_is_whole A [d] S = .ok (.bl (match d with | .int _ => true | _ => false)) S := by
  cases d with
  | int i => rfl
  | bl b => rfl
  | non => rfl
  | str s => rfl
  | _ => exact h.elim
theorem isnum_ev (A : Ads) {d : D} (h : Plain d) (m : Int) (S : Sto) : m_is_number A [d, .int 0, .int m] S = .ok (.bl (IsD d m)) S := by
  have e1 : mCall 1 (m_is_whole A) (aCons (mVar 0) aNil) (enter 3 [d, .int 0, .int m]) S = .ok (.bl (match d with | .int _ => true | _ => false)) S := by
    have ea : aCons (mVar 0) aNil (enter 3 [d, .int 0, .int m]) S = .ok [d] S := rfl
    simp only [mCall, ea, Res.bind_ok, arg, whole_ev A h, List.length_cons, List.length_nil, if_true]
  refine runF_rt ?_
  cases d with
  | int i =>
    have e2 : mCh dLe dLe (mVar 1) (mVar 0) (mVar 2) (enter 3 [.int i, .int 0, .int m]) S = .ok (.bl (IsD (.int i) m)) S := by
      by_cases q : 0 ≤ i <;> simp [mCh, mVar, enter, dII, IsD, q, Res.bind]
    simp only [sRet, vAnd, e1, Res.bind_ok, e2, Res.toS_ok]
  | bl b => simp only [sRet, vAnd, e1, Res.bind_ok, Res.toS_ok, IsD]
  | non => simp only [sRet, vAnd, e1, Res.bind_ok, Res.toS_ok, IsD]
  | str b => simp only [sRet, vAnd, e1, Res.bind_ok, Res.toS_ok, IsD]
  | _ => exact h.elim
theorem rows_small {its : List It} (g : Goods 3 its) (hl4 : its.length ≤ 4) : (spns its [] 0 0).length ≤ 160 := by
  have hN := spns_len [] 0 0 g
  have h3 : Nn 3 = 40 := rfl
  have hm : its.length * Nn 3 ≤ 4 * Nn 3 := Nat.mul_le_mul_right _ hl4
  omega
theorem itemAt_ev (A : Ads) (n : Ne A) {its : List It} (g : Goods 3 its) (hl4 : its.length ≤ 4) {d : D} (hd : Plain d) (S : Sto) :
    ∃ S', S <+: S' ∧ m_item_at A [.str (Sr' (jn its)), d] S = (if IsD d ((jn its).length - 1 : Int) = true then (match d with | .int i => .ok (bst i.toNat (spns its [] 0 0) (.tup [])) S' | _ => .bad) else .exc A.C_NoIndex [("told", d)] S') := by
  obtain ⟨r, S1, rs, e1, b1, hr, ho, hrs⟩ := rowsOf_ev A n g hl4 S
  have hlen := jn_len g hl4
  have hb : big = 1000000 := rfl
  have hz : rs.length ≤ big := by
    have := rows_small g hl4
    have : rs.length = (spns its [] 0 0).length := by rw [← hrs, List.length_map]
    omega
  refine ⟨S1, b1, ?_⟩
  have ec : mCall 1 (m_rows_of_text A) (aCons (mVar 0) aNil) (enter 5 [.str (Sr' (jn its)), d]) S = .ok (.ref r) S1 := by
    have ea : aCons (mVar 0) aNil (enter 5 [.str (Sr' (jn its)), d]) S = .ok [.str (Sr' (jn its))] S := rfl
    simp only [mCall, ea, Res.bind_ok, arg, e1, List.length_cons, List.length_nil, if_true]
  have s1 : sAsg (gN 2) (mCall 1 (m_rows_of_text A) (aCons (mVar 0) aNil)) (enter 5 [.str (Sr' (jn its)), d]) S = .nx [some (.str (Sr' (jn its))), some d, some (.ref r), none, none] S1 := sAsg_ok ec
  have el : mBlt fLen (aCons (mVar 0) aNil) [some (.str (Sr' (jn its))), some d, some (.ref r), none, none] S1 = .ok (.int (jn its).length) S1 := by
    have hv : aCons (mVar 0) aNil [some (.str (Sr' (jn its))), some d, some (.ref r), none, none] S1 = .ok [.str (Sr' (jn its))] S1 := rfl
    have hy : (jn its).length ≤ big := by omega
    simp only [mBlt, hv, Res.bind_ok, fLen, hy, if_true, sr_len]
  have es : mOp dSub (mBlt fLen (aCons (mVar 0) aNil)) (mC (.int 1)) [some (.str (Sr' (jn its))), some d, some (.ref r), none, none] S1 = .ok (.int ((jn its).length - 1 : Int)) S1 := by
    simp only [mOp, el, Res.bind_ok, mC_ev, dSub, dII]
  have en : mCall 3 (m_is_number A) (aCons (mVar 1) (aCons (mC (.int 0)) (aCons (mOp dSub (mBlt fLen (aCons (mVar 0) aNil)) (mC (.int 1))) aNil))) [some (.str (Sr' (jn its))), some d, some (.ref r), none, none] S1 = .ok (.bl (IsD d ((jn its).length - 1 : Int))) S1 := by
    have hv : mVar 1 [some (.str (Sr' (jn its))), some d, some (.ref r), none, none] S1 = .ok d S1 := rfl
    have ea : aCons (mVar 1) (aCons (mC (.int 0)) (aCons (mOp dSub (mBlt fLen (aCons (mVar 0) aNil)) (mC (.int 1))) aNil)) [some (.str (Sr' (jn its))), some d, some (.ref r), none, none] S1 = .ok [d, .int 0, .int ((jn its).length - 1 : Int)] S1 := by
      simp only [aCons, aNil, hv, Res.bind_ok, mC_ev, es]
    simp only [mCall, ea, Res.bind_ok, arg, List.length_cons, List.length_nil, if_true, isnum_ev A hd]
  have et := mNot_ok (mT_ok en)
  by_cases z : IsD d ((jn its).length - 1 : Int) = true
  · rw [if_pos z]
    rw [z] at et
    cases d with
    | int i =>
      have hi : 0 ≤ i := by
        have : (decide (0 ≤ i) && decide (i ≤ ((jn its).length - 1 : Int))) = true := z
        simp at this
        exact this.1
      obtain ⟨x4, el⟩ := rows_loop A hr ho hz (some (.str (Sr' (jn its)))) i.toNat (.tup [])
      have hc : ((i.toNat : Nat) : Int) = i := Int.toNat_of_nonneg hi
      rw [hc, hrs] at el
      have s3 : sAsg (gN 3) (mTup aNil) [some (.str (Sr' (jn its))), some (.int i), some (.ref r), none, none] S1 = .nx [some (.str (Sr' (jn its))), some (.int i), some (.ref r), some (.tup []), none] S1 := rfl
      refine runF_rt ((sSeq_nx s1).trans ((sSeq_nx ((sIf_f et).trans rfl)).trans ((sSeq_nx s3).trans ((sSeq_nx el).trans ?_))))
      rfl
    | _ => cases z
  · rw [if_neg z]
    have z : IsD d ((jn its).length - 1 : Int) = false := by simpa using z
    rw [z] at et
    have hx : sRaise A.C_NoIndex ("told" : Str) (mVar 1) [some (.str (Sr' (jn its))), some d, some (.ref r), none, none] S1 = .ex A.C_NoIndex [("told", d)] [some (.str (Sr' (jn its))), some d, some (.ref r), none, none] S1 := rfl
    have hq := (sIf_t (b := sPass) et).trans hx
    unfold m_item_at runF
    rw [sSeq_nx s1]
    simp only [sSeq, hq]
end K68
end

section
set_option Elab.async false
set_option linter.all false
set_option maxRecDepth 100000
set_option maxHeartbeats 4000000
namespace K68
open PySem PySem.Spec PyProof.Rows L2 Fx TL
theorem told_ok (A : Ads) {x d v : D} {S S' : Sto} (h : m_item_at A [x, d] S = .ok v S') : m__law_told A [x, d] S = .ok v S' := by
  have ea : aCons (mVar 0) (aCons (mVar 1) aNil) (enter 3 [x, d]) S = .ok [x, d] S := rfl
  have ec : mCall 2 (m_item_at A) (aCons (mVar 0) (aCons (mVar 1) aNil)) (enter 3 [x, d]) S = .ok v S' := by
    simp only [mCall, ea, Res.bind_ok, arg, List.length_cons, List.length_nil, if_true, h]
  refine runF_rt ?_
  simp only [sTry, sRet, ec, Res.toS_ok]
theorem told_index (A : Ads) {x d v : D} {S S' : Sto} (h : m_item_at A [x, d] S = .exc A.C_NoIndex [("told", v)] S') : m__law_told A [x, d] S = .ok (.lst [.str "index", v]) S' := by
  have ea : aCons (mVar 0) (aCons (mVar 1) aNil) (enter 3 [x, d]) S = .ok [x, d] S := rfl
  have ec : mCall 2 (m_item_at A) (aCons (mVar 0) (aCons (mVar 1) aNil)) (enter 3 [x, d]) S = .exc A.C_NoIndex [("told", v)] S' := by
    simp only [mCall, ea, Res.bind_ok, arg, List.length_cons, List.length_nil, if_true, h]
  refine runF_rt ?_
  simp only [sTry, sRet, ec, Res.toS_exc, runH, mt_NoIndex, if_true]
  rfl
theorem told_text (A : Ads) (ne : A.C_BadText ≠ A.C_NoIndex) {x d v : D} {S S' : Sto} (h : m_item_at A [x, d] S = .exc A.C_BadText [("told", v)] S') : m__law_told A [x, d] S = .ok (.lst [.str "text", v]) S' := by
  have ea : aCons (mVar 0) (aCons (mVar 1) aNil) (enter 3 [x, d]) S = .ok [x, d] S := rfl
  have ec : mCall 2 (m_item_at A) (aCons (mVar 0) (aCons (mVar 1) aNil)) (enter 3 [x, d]) S = .exc A.C_BadText [("told", v)] S' := by
    simp only [mCall, ea, Res.bind_ok, arg, List.length_cons, List.length_nil, if_true, h]
  refine runF_rt ?_
  simp only [sTry, sRet, ec, Res.toS_exc, runH, mt_NoIndex, mt_BadText, if_true, if_neg ne]
  rfl
/-- what the law's own `told` answers -/
def toldD (rows : List Row) (len : Nat) (d : D) : D := if IsD d (len - 1 : Int) = true then (match d with | .int i => bst i.toNat rows (.tup []) | _ => .non) else .lst [.str "index", d]
theorem told_ev (A : Ads) (n : Ne A) {its : List It} (g : Goods 3 its) (hl4 : its.length ≤ 4) {d : D} (hd : Plain d) (S : Sto) :
    ∃ S', S <+: S' ∧ m__law_told A [.str (Sr' (jn its)), d] S = .ok (toldD (spns its [] 0 0) (jn its).length d) S' := by
  obtain ⟨S', b, e⟩ := itemAt_ev A n g hl4 hd S
  refine ⟨S', b, ?_⟩
  unfold toldD
  by_cases z : IsD d ((jn its).length - 1 : Int) = true
  · rw [if_pos z] at e ⊢
    cases d with
    | int i => exact told_ok A e
    | _ => cases z
  · rw [if_neg z] at e ⊢
    exact told_index A e
theorem cmp_bst (a : Nat) : ∀ (l : List Row) {w : D}, Cmp w 10 → Cmp (bst a l w) 10
  | [], w, h => h
  | r :: l, w, h => by
    rw [bst]
    refine cmp_bst a l ?_
    split
    · exact cmp_path _ _
    · exact h
theorem Cmp.mono {d : D} {n m : Nat} (h : Cmp d n) (q : n ≤ m) : Cmp d m := by
  obtain ⟨p, e, c, z⟩ := h
  exact ⟨p, e, c, Nat.le_trans z q⟩
theorem bst_out (a : Nat) : ∀ (l : List Row) (w : D), (∀ r ∈ l, r.2.2 ≤ a) → bst a l w = w
  | [], w, h => rfl
  | r :: l, w, h => by
    have := h r List.mem_cons_self
    rw [bst, if_neg (by omega)]
    exact bst_out a l w fun x hx => h x (List.mem_cons_of_mem _ hx)
theorem bst_in (a : Nat) : ∀ (l : List Row) (w w' : D), (∃ r ∈ l, r.2.1 ≤ a ∧ a < r.2.2) → bst a l w = bst a l w'
  | [], w, w', h => by obtain ⟨r, hr, _⟩ := h; cases hr
  | r :: l, w, w', h => by
    rw [bst, bst]
    by_cases z : r.2.1 ≤ a ∧ a < r.2.2
    · rw [if_pos z, if_pos z]
    · rw [if_neg z, if_neg z]
      refine bst_in a l w w' ?_
      obtain ⟨x, hx, q⟩ := h
      rcases List.mem_cons.mp hx with rfl | hx
      · exact absurd q z
      · exact ⟨x, hx, q⟩
end K68
end

section
set_option Elab.async false
set_option linter.all false
set_option maxRecDepth 100000
set_option maxHeartbeats 4000000
namespace K68
open PySem PySem.Spec PyProof.Rows L2 Fx TL
abbrev lwG (x0 x1 x2 x3 x4 x5 x6 x7 x8 x9 x10 x11 x12 x13 : Option D) : En := [x0, x1, x2, x3, x4, x5, x6, x7, x8, x9, x10, x11, x12, x13]
theorem law1_turn (A : Ads) {S : Sto} (r : Row) (a : Nat) (w : D) (x0 x1 x2 x3 x4 x5 x6 x7 x13 : Option D) :
    B_law_1 A (lwG x0 x1 x2 x3 x4 x5 x6 x7 (some (.int a)) (some w) (some (pathD r.1)) (some (.int r.2.1)) (some (.int r.2.2)) x13) S = .nx (lwG x0 x1 x2 x3 x4 x5 x6 x7 (some (.int a)) (some (if r.2.1 ≤ a ∧ a < r.2.2 then pathD r.1 else w)) (some (pathD r.1)) (some (.int r.2.1)) (some (.int r.2.2)) x13) S := by
  have ec := ch_ev (Γ := lwG x0 x1 x2 x3 x4 x5 x6 x7 (some (.int a)) (some w) (some (pathD r.1)) (some (.int r.2.1)) (some (.int r.2.2)) x13) (S := S) (a := mVar 11) (b := mVar 8) (c := mVar 12) (x := r.2.1) (y := a) (z := r.2.2) rfl rfl rfl
  have ev : mIf (mT (mCh dLe dLt (mVar 11) (mVar 8) (mVar 12))) (mVar 10) (mVar 9) (lwG x0 x1 x2 x3 x4 x5 x6 x7 (some (.int a)) (some w) (some (pathD r.1)) (some (.int r.2.1)) (some (.int r.2.2)) x13) S = .ok (if r.2.1 ≤ a ∧ a < r.2.2 then pathD r.1 else w) S := by
    by_cases z : r.2.1 ≤ a ∧ a < r.2.2
    · rw [decide_eq_true z] at ec
      rw [if_pos z]
      simp only [mIf, ec, Res.bind_ok, if_true]
      rfl
    · rw [decide_eq_false z] at ec
      rw [if_neg z]
      simp only [mIf, ec, Res.bind_ok]
      rfl
  exact sAsg_ok ev
theorem law1_loop (A : Ads) {S : Sto} {rows : List Row} {m : Nat} (hm : S[m]? = some (.lst (rowsD rows))) (a : Nat) (w : D) (x0 x1 x2 x3 x4 x6 x7 x10 x11 x12 x13 : Option D) :
    ∃ y10 y11 y12, sFor (iSeq (mVar 5)) (gT [10, 11, 12]) (B_law_1 A) (lwG x0 x1 x2 x3 x4 (some (.ref m)) x6 x7 (some (.int a)) (some w) x10 x11 x12 x13) S = .nx (lwG x0 x1 x2 x3 x4 (some (.ref m)) x6 x7 (some (.int a)) (some (bst a rows w)) y10 y11 y12 x13) S := by
  let I : Nat → En → Sto → Prop := fun i Γ S' => S' = S ∧ ∃ w' y10 y11 y12, Γ = lwG x0 x1 x2 x3 x4 (some (.ref m)) x6 x7 (some (.int a)) (some w') y10 y11 y12 x13 ∧ bst a rows w = bst a (rows.drop i) w'
  have eq : iSeq (mVar 5) (lwG x0 x1 x2 x3 x4 (some (.ref m)) x6 x7 (some (.int a)) (some w) x10 x11 x12 x13) S = .ok (.seq (.ref m)) S := by
    have hv : mVar 5 (lwG x0 x1 x2 x3 x4 (some (.ref m)) x6 x7 (some (.int a)) (some w) x10 x11 x12 x13) S = .ok (.ref m) S := rfl
    simp only [iSeq, hv, Res.bind_ok, dL, hm]
  have hlS : lenS (.seq (.ref m)) S = rows.length + 1 := by
    simp [lenS, dL, hm, rowsD]
  have hrl : (rowsD rows).length = rows.length := by simp [rowsD]
  obtain ⟨Γ', S', e, hS, w', y10, y11, y12, rfl, h4⟩ := lpF_all (s := .seq (.ref m)) (tg := gT [10, 11, 12]) (b := B_law_1 A) (I := I) (rowsD rows)
    (fun i Γ S1 hI => by obtain ⟨rfl, _⟩ := hI; simp [itS, dL, hm])
    (fun i hi Γ S1 hI => by
      obtain ⟨rfl, w', y10, y11, y12, rfl, h4⟩ := hI
      have hi' : i < rows.length := by omega
      have hx : (rowsD rows)[i] = rowD rows[i] := by simp [rowsD]
      refine ⟨lwG x0 x1 x2 x3 x4 (some (.ref m)) x6 x7 (some (.int a)) (some w') (some (pathD rows[i].1)) (some (.int rows[i].2.1)) (some (.int rows[i].2.2)) x13, by rw [hx]; rfl, _, _, law1_turn A rows[i] a w' _ _ _ _ _ _ _ _ _, rfl, _, _, _, _, rfl, ?_⟩
      rw [h4, List.drop_eq_getElem_cons hi', bst])
    (rows.length + 1) 0 (lwG x0 x1 x2 x3 x4 (some (.ref m)) x6 x7 (some (.int a)) (some w) x10 x11 x12 x13) S ⟨rfl, w, _, _, _, rfl, rfl⟩ (Nat.zero_le _) (by omega)
  subst hS
  refine ⟨y10, y11, y12, ?_⟩
  rw [hrl, List.drop_eq_nil_of_le (Nat.le_refl _), bst] at h4
  rw [h4]
  simp only [sFor, eq, Res.toS_ok, hlS]
  exact e
/-- one asked place: the answer is the law's -/
theorem law2_turn (A : Ads) (n : Ne A) {its : List It} (g : Goods 3 its) (hl4 : its.length ≤ 4) {S : Sto} {m : Nat} (hm : S[m]? = some (.lst (rowsD (spns its [] 0 0)))) (a : Nat) (ha : (a < (jn its).length ∧ ∃ r ∈ spns its [] 0 0, r.2.1 ≤ a ∧ a < r.2.2) ∨ a ≤ (jn its).length) (x0 x1 x2 x3 x6 x7 x9 x10 x11 x12 x13 : Option D) :
    ∃ y9 y10 y11 y12 S', B_law_2 A (lwG x0 x1 x2 x3 (some (.str (Sr' (jn its)))) (some (.ref m)) x6 x7 (some (.int a)) x9 x10 x11 x12 x13) S = .nx (lwG x0 x1 x2 x3 (some (.str (Sr' (jn its)))) (some (.ref m)) x6 x7 (some (.int a)) y9 y10 y11 y12 x13) S' ∧ S <+: S' := by
  have hlen := jn_len g hl4
  have hb : big = 1000000 := rfl
  have ha' : a ≤ (jn its).length := by rcases ha with h | h <;> omega
  obtain ⟨w, hw, hw2, hw3⟩ : ∃ w, w = (if a < (jn its).length then D.tup [] else .lst [.str "index", .int a]) ∧ Cmp w 10 ∧ toldD (spns its [] 0 0) (jn its).length (.int a) = bst a (spns its [] 0 0) w := by
    refine ⟨_, rfl, ?_, ?_⟩
    · split
      · exact .tup (.nil _)
      · exact .lst (.cons (.str (by decide +kernel) _) (.cons (.int _ _) (.nil _)))
    · unfold toldD IsD
      by_cases z : a < (jn its).length
      · have : (decide ((0 : Int) ≤ (a : Int)) && decide ((a : Int) ≤ ((jn its).length - 1 : Int))) = true := by
          simp; omega
        rw [if_pos this, if_pos z]
        rfl
      · have : ¬ (decide ((0 : Int) ≤ (a : Int)) && decide ((a : Int) ≤ ((jn its).length - 1 : Int))) = true := by
          simp; omega
        rw [if_neg this, if_neg z, bst_out]
        intro r hr
        have := (spns_in _ _ _ g r hr).2
        have : (sp its).length ≤ (jn its).length + 1 := by
          cases its with
          | nil => exact Nat.zero_le _
          | cons x xs => simp [jn, sp]
        omega
  let Γ0 := lwG x0 x1 x2 x3 (some (.str (Sr' (jn its)))) (some (.ref m)) x6 x7 (some (.int a)) x9 x10 x11 x12 x13
  have el : mBlt fLen (aCons (mVar 4) aNil) Γ0 S = .ok (.int (jn its).length) S := by
    have hv : aCons (mVar 4) aNil Γ0 S = .ok [.str (Sr' (jn its))] S := rfl
    have hy : (jn its).length ≤ big := by omega
    simp only [mBlt, hv, Res.bind_ok, fLen, hy, if_true, sr_len]
  have ec : mT (mOp dLt (mVar 8) (mBlt fLen (aCons (mVar 4) aNil))) Γ0 S = .ok (decide (a < (jn its).length)) S := by
    have hv : mVar 8 Γ0 S = .ok (.int a) S := rfl
    have h2 : ((a : Int) < ((jn its).length : Int)) ↔ a < (jn its).length := Int.ofNat_lt
    simp only [mT, mOp, hv, Res.bind_ok, el, dLt, dII, h2]
  have ew : mIf (mT (mOp dLt (mVar 8) (mBlt fLen (aCons (mVar 4) aNil)))) (mTup aNil) (mLst true (aCons (mC (.str ("index" : Str))) (aCons (mVar 8) aNil))) Γ0 S = .ok w S := by
    rw [hw]
    by_cases z : a < (jn its).length
    · rw [decide_eq_true z] at ec
      rw [if_pos z]
      simp only [mIf, ec, Res.bind_ok, if_true]
      rfl
    · rw [decide_eq_false z] at ec
      rw [if_neg z]
      simp only [mIf, ec, Res.bind_ok]
      rfl
  have s1 := sAsg_ok (i := 9) ew
  obtain ⟨y10, y11, y12, s2⟩ := law1_loop A hm a w x0 x1 x2 x3 (some (.str (Sr' (jn its)))) x6 x7 x10 x11 x12 x13
  obtain ⟨S', b, e⟩ := told_ev A n g hl4 (d := .int a) trivial S
  rw [hw3] at e
  let Γ1 := lwG x0 x1 x2 x3 (some (.str (Sr' (jn its)))) (some (.ref m)) x6 x7 (some (.int a)) (some (bst a (spns its [] 0 0) w)) y10 y11 y12 x13
  have et : mCall 2 (m__law_told A) (aCons (mVar 4) (aCons (mVar 8) aNil)) Γ1 S = .ok (bst a (spns its [] 0 0) w) S' := by
    have ea : aCons (mVar 4) (aCons (mVar 8) aNil) Γ1 S = .ok [.str (Sr' (jn its)), .int a] S := rfl
    simp only [mCall, ea, Res.bind_ok, arg, List.length_cons, List.length_nil, if_true, e]
  have en : mT (mOp dNe (mCall 2 (m__law_told A) (aCons (mVar 4) (aCons (mVar 8) aNil))) (mVar 9)) Γ1 S = .ok false S' := by
    have hv : mVar 9 Γ1 S' = .ok (bst a (spns its [] 0 0) w) S' := rfl
    simp only [mT, mOp, et, Res.bind_ok, hv, dNe_same ((cmp_bst a _ hw2).mono (by omega))]
  exact ⟨_, _, _, _, S', (sSeq_nx s1).trans ((sSeq_nx s2).trans ((sIf_f en).trans rfl)), b⟩
end K68
end

section
set_option Elab.async false
set_option linter.all false
set_option maxRecDepth 100000
set_option maxHeartbeats 4000000
namespace K68
open PySem PySem.Spec PyProof.Rows L2 Fx TL
/-- what the law's turn keeps: the pool at n, the rows at m -/
def LI (n m : Nat) (rows : List Row) (S : Sto) : Prop := n ≠ m ∧ (∃ a b, S[n]? = some (pl a b)) ∧ S[m]? = some (.lst (rowsD rows))
theorem get_pre {S S' : Sto} {i : Nat} {x : O} (h : S <+: S') (e : S[i]? = some x) : S'[i]? = some x := by
  obtain ⟨t, rfl⟩ := h
  have : i < S.length := (List.getElem?_eq_some_iff.mp e).1
  rw [List.getElem?_append_left this, e]
theorem LI.pre {n m : Nat} {rows : List Row} {S S' : Sto} (h : LI n m rows S) (p : S <+: S') : LI n m rows S' := by
  obtain ⟨q, ⟨a, b, e⟩, f⟩ := h
  exact ⟨q, ⟨a, b, get_pre p e⟩, get_pre p f⟩
theorem one_row (A : Ads) {n m : Nat} {rows : List Row} {S : Sto} (h : LI n m rows S) (h0 : rows ≠ []) (h1 : rows.length ≤ 160) :
    ∃ r S', m__law_one A [.ref n, .ref m] S = .ok (rowD r) S' ∧ r ∈ rows ∧ LI n m rows S' := by
  obtain ⟨q, ⟨a, b, e⟩, f⟩ := h
  have hn : n < S.length := (List.getElem?_eq_some_iff.mp e).1
  have hS : Sp S n a b = S := by
    have : S[n] = pl a b := (List.getElem?_eq_some_iff.mp e).2
    show S.set n (pl a b) = S
    rw [← this]
    exact List.set_getElem_self hn
  have hf : ∀ a b, (Sp S n a b)[m]? = some (.lst (rowsD rows)) := fun a b => by
    show (S.set n _)[m]? = _
    rw [List.getElem?_set_ne q]
    exact f
  obtain ⟨d, a', b', e2, hd⟩ := one_ev A hn a b (t := .ref m) (xs := rowsD rows) (fun a b => by simp [dSq, dL, hf a b]) (fun z hz => by cases hz) (by cases rows with
    | nil => exact absurd rfl h0
    | cons r l => intro z; cases z) (by simp [rowsD]; omega)
  rw [hS] at e2
  obtain ⟨r, hr, rfl⟩ := List.mem_map.mp hd
  exact ⟨r, _, e2, hr, q, ⟨a', b', sp_get hn a' b'⟩, hf a' b'⟩
end K68
end

section
set_option Elab.async false
set_option linter.all false
set_option maxRecDepth 100000
set_option maxHeartbeats 4000000
namespace K68
open PySem PySem.Spec PyProof.Rows L2 Fx TL
theorem law3_turn (A : Ads) (ne : Ne A) {its : List It} (g : Goods 3 its) (hl4 : its.length ≤ 4) (h0 : spns its [] 0 0 ≠ []) {S : Sto} {n m : Nat} (h : LI n m (spns its [] 0 0) S) (x0 x1 x3 x6 x7 x8 x9 x10 x11 x12 x13 : Option D) :
    ∃ y7 y8 y9 y10 y11 y12 S', B_law_3 A (lwG x0 x1 (some (.ref n)) x3 (some (.str (Sr' (jn its)))) (some (.ref m)) x6 x7 x8 x9 x10 x11 x12 x13) S = .nx (lwG x0 x1 (some (.ref n)) x3 (some (.str (Sr' (jn its)))) (some (.ref m)) x6 y7 y8 y9 y10 y11 y12 x13) S' ∧ LI n m (spns its [] 0 0) S' := by
  obtain ⟨r, S1, e, hr, h1⟩ := one_row A h h0 (rows_small g hl4)
  have hin := spns_in _ _ _ g r hr
  have hsp : (sp its).length ≤ (jn its).length + 1 := by
    cases its with
    | nil => exact Nat.zero_le _
    | cons x xs => simp [jn, sp]
  let T : Option D := some (.str (Sr' (jn its)))
  let Γ1 := lwG x0 x1 (some (.ref n)) x3 T (some (.ref m)) x6 (some (rowD r)) x8 x9 x10 x11 x12 x13
  have ec : mCall 2 (m__law_one A) (aCons (mVar 2) (aCons (mVar 5) aNil)) (lwG x0 x1 (some (.ref n)) x3 T (some (.ref m)) x6 x7 x8 x9 x10 x11 x12 x13) S = .ok (rowD r) S1 := by
    have ea : aCons (mVar 2) (aCons (mVar 5) aNil) (lwG x0 x1 (some (.ref n)) x3 T (some (.ref m)) x6 x7 x8 x9 x10 x11 x12 x13) S = .ok [.ref n, .ref m] S := rfl
    simp only [mCall, ea, Res.bind_ok, arg, List.length_cons, List.length_nil, if_true, e]
  have s1 := sAsg_ok (i := 7) ec
  let xs : List D := [.int (r.2.1 : Nat), .int ((r.2.2 - 1 : Nat) : Int), .int (r.2.2 : Nat)]
  have i1 : mOp dIx (mVar 7) (mC (.int 1)) Γ1 S1 = .ok (.int (r.2.1 : Nat)) S1 := rfl
  have i2 : mOp dIx (mVar 7) (mC (.int 2)) Γ1 S1 = .ok (.int (r.2.2 : Nat)) S1 := rfl
  have i3 : mOp dSub (mOp dIx (mVar 7) (mC (.int 2))) (mC (.int 1)) Γ1 S1 = .ok (.int ((r.2.2 - 1 : Nat) : Int)) S1 := by
    have : ((r.2.2 - 1 : Nat) : Int) = (r.2.2 : Int) - 1 := by omega
    rw [this]
    simp only [mOp, i2, Res.bind_ok, mC_ev, dSub, dII] at i2 ⊢
    simp [i2, dII]
  have eq : iSeq (mLst true (aCons (mOp dIx (mVar 7) (mC (.int 1))) (aCons (mOp dSub (mOp dIx (mVar 7) (mC (.int 2))) (mC (.int 1))) (aCons (mOp dIx (mVar 7) (mC (.int 2))) aNil)))) Γ1 S1 = .ok (.seq (.lst xs)) S1 := by
    have ea : mLst true (aCons (mOp dIx (mVar 7) (mC (.int 1))) (aCons (mOp dSub (mOp dIx (mVar 7) (mC (.int 2))) (mC (.int 1))) (aCons (mOp dIx (mVar 7) (mC (.int 2))) aNil))) Γ1 S1 = .ok (.lst xs) S1 := by
      simp only [mLst, aCons, aNil, i1, i2, i3, Res.bind_ok, mkL]
      rfl
    simp only [iSeq, ea, Res.bind_ok]
    rfl
  let I : Nat → En → Sto → Prop := fun i Γ S' => LI n m (spns its [] 0 0) S' ∧ ∃ y8 y9 y10 y11 y12, Γ = lwG x0 x1 (some (.ref n)) x3 T (some (.ref m)) x6 (some (rowD r)) y8 y9 y10 y11 y12 x13
  have hx : ∀ d ∈ xs, ∃ a : Nat, d = .int a ∧ a ≤ (jn its).length := by
    intro d hd
    simp only [xs, List.mem_cons, List.not_mem_nil, or_false] at hd
    rcases hd with rfl | rfl | rfl
    · exact ⟨_, rfl, by omega⟩
    · exact ⟨_, rfl, by omega⟩
    · exact ⟨_, rfl, by omega⟩
  obtain ⟨Γ', S', e3, hI, y8, y9, y10, y11, y12, rfl⟩ := lpF_all (s := .seq (.lst xs)) (tg := gN 8) (b := B_law_2 A) (I := I) xs
    (fun i Γ S1 hI => rfl)
    (fun i hi Γ S1 hI => by
      obtain ⟨hI, y8, y9, y10, y11, y12, rfl⟩ := hI
      obtain ⟨a, ea, ha⟩ := hx _ (List.getElem_mem hi)
      obtain ⟨z9, z10, z11, z12, S2, e2, p2⟩ := law2_turn A ne g hl4 hI.2.2 a (.inr ha) x0 x1 (some (.ref n)) x3 x6 (some (rowD r)) y9 y10 y11 y12 x13
      exact ⟨_, by rw [ea]; rfl, _, _, e2, hI.pre p2, _, _, _, _, _, rfl⟩)
    (xs.length + 1) 0 Γ1 S1 ⟨h1, _, _, _, _, _, rfl⟩ (Nat.zero_le _) rfl
  refine ⟨some (rowD r), y8, y9, y10, y11, y12, S', ?_, hI⟩
  unfold B_law_3
  refine (sSeq_nx s1).trans ?_
  have hlS : lenS (.seq (.lst xs)) S1 = xs.length + 1 := rfl
  show sFor _ _ _ Γ1 S1 = _
  simp only [sFor, eq, Res.toS_ok, hlS]
  exact e3
end K68
end

section
set_option Elab.async false
set_option linter.all false
set_option maxRecDepth 100000
set_option maxHeartbeats 4000000
namespace K68
open PySem PySem.Spec PyProof.Rows L2 Fx TL
theorem law4_turn (A : Ads) (ne : Ne A) {its : List It} (g : Goods 3 its) (hl4 : its.length ≤ 4) {d : D} (hd : Plain d) (hc : Cmp d 10) (hi : IsD d ((jn its).length - 1 : Int) = false) (S : Sto) (x0 x1 x2 x3 x5 x6 x7 x8 x9 x10 x11 x12 : Option D) :
    ∃ S', B_law_4 A (lwG x0 x1 x2 x3 (some (.str (Sr' (jn its)))) x5 x6 x7 x8 x9 x10 x11 x12 (some d)) S = .nx (lwG x0 x1 x2 x3 (some (.str (Sr' (jn its)))) x5 x6 x7 x8 x9 x10 x11 x12 (some d)) S' ∧ S <+: S' := by
  obtain ⟨S', b, e⟩ := told_ev A ne g hl4 hd S
  have ht : toldD (spns its [] 0 0) (jn its).length d = .lst [.str "index", d] := by
    unfold toldD
    rw [hi]
    rfl
  rw [ht] at e
  let Γ := lwG x0 x1 x2 x3 (some (.str (Sr' (jn its)))) x5 x6 x7 x8 x9 x10 x11 x12 (some d)
  have et : mCall 2 (m__law_told A) (aCons (mVar 4) (aCons (mVar 13) aNil)) Γ S = .ok (.lst [.str "index", d]) S' := by
    have ea : aCons (mVar 4) (aCons (mVar 13) aNil) Γ S = .ok [.str (Sr' (jn its)), d] S := rfl
    simp only [mCall, ea, Res.bind_ok, arg, List.length_cons, List.length_nil, if_true, e]
  have el : mLst true (aCons (mC (.str ("index" : Str))) (aCons (mVar 13) aNil)) Γ S' = .ok (.lst [.str "index", d]) S' := rfl
  have hq : Cmp (.lst [.str "index", d]) 60 := (Cmp.lst (.cons (.str (by decide +kernel) _) (.cons hc (.nil _)))).mono (by omega)
  have en : mT (mOp dNe (mCall 2 (m__law_told A) (aCons (mVar 4) (aCons (mVar 13) aNil))) (mLst true (aCons (mC (.str ("index" : Str))) (aCons (mVar 13) aNil)))) Γ S = .ok false S' := by
    simp only [mT, mOp, et, Res.bind_ok, el, dNe_same hq]
  exact ⟨S', (sIf_f en).trans rfl, b⟩
/-- the six odd askings -/
theorem law4_loop (A : Ads) (ne : Ne A) {its : List It} (g : Goods 3 its) (hl4 : its.length ≤ 4) {src : Id'} {xs : List D} (hx : ∀ d ∈ xs, Plain d ∧ Cmp d 10 ∧ IsD d ((jn its).length - 1 : Int) = false) (S : Sto) (x0 x1 x2 x3 x5 x6 x7 x8 x9 x10 x11 x12 x13 : Option D)
    (hs : src (lwG x0 x1 x2 x3 (some (.str (Sr' (jn its)))) x5 x6 x7 x8 x9 x10 x11 x12 x13) S = .ok (.seq (.lst xs)) S) :
    ∃ y13 S', sFor src (gN 13) (B_law_4 A) (lwG x0 x1 x2 x3 (some (.str (Sr' (jn its)))) x5 x6 x7 x8 x9 x10 x11 x12 x13) S = .nx (lwG x0 x1 x2 x3 (some (.str (Sr' (jn its)))) x5 x6 x7 x8 x9 x10 x11 x12 y13) S' ∧ S <+: S' := by
  let I : Nat → En → Sto → Prop := fun i Γ S' => S <+: S' ∧ ∃ y13, Γ = lwG x0 x1 x2 x3 (some (.str (Sr' (jn its)))) x5 x6 x7 x8 x9 x10 x11 x12 y13
  obtain ⟨Γ', S', e3, hI, y13, rfl⟩ := lpF_all (s := .seq (.lst xs)) (tg := gN 13) (b := B_law_4 A) (I := I) xs
    (fun i Γ S1 hI => rfl)
    (fun i hi Γ S1 hI => by
      obtain ⟨hI, y13, rfl⟩ := hI
      obtain ⟨h1, h2, h3⟩ := hx _ (List.getElem_mem hi)
      obtain ⟨S2, e2, p2⟩ := law4_turn A ne g hl4 h1 h2 h3 S1 x0 x1 x2 x3 x5 x6 x7 x8 x9 x10 x11 x12
      exact ⟨_, rfl, _, _, e2, List.IsPrefix.trans hI p2, _, rfl⟩)
    (xs.length + 1) 0 (lwG x0 x1 x2 x3 (some (.str (Sr' (jn its)))) x5 x6 x7 x8 x9 x10 x11 x12 x13) S ⟨List.prefix_refl _, _, rfl⟩ (Nat.zero_le _) rfl
  refine ⟨y13, S', ?_, hI⟩
  have hlS : lenS (.seq (.lst xs)) S = xs.length + 1 := rfl
  simp only [sFor, hs, Res.toS_ok, hlS]
  exact e3
end K68
end

section
set_option Elab.async false
set_option linter.all false
set_option maxRecDepth 100000
set_option maxHeartbeats 4000000
namespace K68
open PySem PySem.Spec PyProof.Rows L2 Fx TL
theorem told_none (A : Ads) (nb : A.C_BadText ≠ A.C_NoIndex) (S : Sto) : m__law_told A [.non, .non] S = .ok (.lst [.str "text", .int 0]) S := by
  have er : m_rows_of_text A [.non] S = .exc A.C_BadText [("told", .int 0)] S := by
    have ec : mT (mIsi "str" (mVar 0)) (enter 1 [.non]) S = .ok false S := rfl
    have hx : sRaise A.C_BadText ("told" : Str) (mC (.int 0)) (enter 1 [.non]) S = .ex A.C_BadText [("told", .int 0)] (enter 1 [.non]) S := rfl
    have hq := (sIf_t (b := sPass) (mNot_ok ec)).trans hx
    unfold m_rows_of_text runF
    simp only [sSeq, hq]
  refine told_text A nb ?_
  have ec : mCall 1 (m_rows_of_text A) (aCons (mVar 0) aNil) (enter 5 [.non, .non]) S = .exc A.C_BadText [("told", .int 0)] S := by
    have ea : aCons (mVar 0) aNil (enter 5 [.non, .non]) S = .ok [.non] S := rfl
    simp only [mCall, ea, Res.bind_ok, arg, List.length_cons, List.length_nil, if_true, er]
  unfold m_item_at runF
  simp only [sSeq, sAsg, ec, Res.toS_exc]
end K68
end

section
set_option Elab.async false
set_option linter.all false
set_option maxRecDepth 100000
set_option maxHeartbeats 4000000
namespace K68
open PySem PySem.Spec PyProof.Rows L2 Fx TL
section
variable {A : Ads} {S0 S : Sto} {t : Nat} {L : List Nat} {p r q : Nat} {rs : List Rw} {pl : List Op}
theorem refuse_ev (A : Ads) (h : PS A S0 S t L p r q rs pl) : m_TextWalk_refuse_here A [.ref t] S = .exc A.C_BadText [("told", .int p)] S := by
  have hat := (fld_tw h.tw).2.1
  have hv : mVar 0 (enter 1 [.ref t]) S = .ok (.ref t) S := rfl
  unfold m_TextWalk_refuse_here runF
  simp only [sRaise, mUn, hv, Res.bind_ok, hat, Res.toS_ok]
theorem begin_no (A : Ads) (h : PS A S0 S t L p r q rs pl) (hl : L.length ≤ 100000) (h1 : isAt L p FIG = false) (h2 : isAt L p LET = false) (h3 : isAt L p "?" = false) (h4 : isAt L p "(" = false) (f : Nat) :
    m_TextWalk_begin_item A (f + 1) [.ref t] S = .exc A.C_BadText [("told", .int p)] S := by
  have es := small_no A h hl h1 h2 h3
  have em : mMeth (H_small_item A) ("small_item" : Str) 1 (m_TextWalk_small_item A) (mVar 0) aNil (enter 2 [.ref t]) S = .ok .non S :=
    meth_ok (n := 1) (b := aNil) rfl h.tw (h_small_item A) (lk_tw_small_item ..) (aNil_ev _ _) rfl es
  have c1 : mT (mOp (dIs true) (mMeth (H_small_item A) ("small_item" : Str) 1 (m_TextWalk_small_item A) (mVar 0) aNil) (mC .non)) (enter 2 [.ref t]) S = .ok false S := by
    simp only [mT, mOp, em, Res.bind_ok, mC_ev]
    rfl
  have n1 := mT_ok (nextM A h hl (Γ := enter 2 [.ref t]) rfl "(")
  rw [h4] at n1
  have er : mMeth (H_refuse_here A) ("refuse_here" : Str) 1 (m_TextWalk_refuse_here A) (mVar 0) aNil (enter 2 [.ref t]) S = .exc A.C_BadText [("told", .int p)] S :=
    meth_ok (n := 1) (b := aNil) rfl h.tw (h_refuse_here A) (lk_tw_refuse_here ..) (aNil_ev _ _) rfl (refuse_ev A h)
  have ed : sDrop (mMeth (H_refuse_here A) ("refuse_here" : Str) 1 (m_TextWalk_refuse_here A) (mVar 0) aNil) (enter 2 [.ref t]) S = .ex A.C_BadText [("told", .int p)] (enter 2 [.ref t]) S := by
    simp only [sDrop, er, Res.toS_exc]
  have hq := (sIf_t (b := sPass) (mNot_ok n1)).trans ed
  have s1 := (sIf_f (a := sRetN) (b := sPass) c1).trans rfl
  show runF 2 (b_TextWalk_begin_item A (m_TextWalk_begin_item A f)) [.ref t] S = _
  unfold b_TextWalk_begin_item runF
  rw [sSeq_nx s1]
  simp only [sSeq, hq]
theorem isAt_past {n : Nat} (hn : L.length ≤ n) (z : Str) : isAt L n z = false := by
  unfold isAt
  rw [List.getElem?_eq_none hn]
end
end K68
end

section
set_option Elab.async false
set_option linter.all false
set_option maxRecDepth 100000
set_option maxHeartbeats 4000000
namespace K68
open PySem PySem.Spec PyProof.Rows L2 Fx TL
theorem runF_ex {b : Sd} {N : Nat} {ds : List D} {S S' : Sto} {c : Addr} {fs : List (Str × D)} {Γ : En} (h : b (enter N ds) S = .ex c fs Γ S') : runF N b ds S = .exc c fs S' := by
  simp [runF, h]
theorem sSeq_ex {a b : Sd} {Γ Γ' : En} {S S' : Sto} {c : Addr} {fs : List (Str × D)} (h : a Γ S = .ex c fs Γ' S') : sSeq a b Γ S = .ex c fs Γ' S' := by
  simp [sSeq, h]
section
variable {A : Ads} {S0 S : Sto} {t : Nat} {L : List Nat} {p r q : Nat} {rs : List Rw} {pl : List Op}
/-- a blank at the very end: refused behind it -/
theorem blank_end (A : Ads) (n : Ne A) (h : PS A S0 S t L p r q rs pl) (hl : L.length ≤ 100000) (h32 : L[p]? = some 32) (he : L.length = p + 1) (N : Nat) :
    ∃ Γ' S', whL (mT (mVar 1)) (B_TextWalk_walked_rows_1 A) (N + 1) [some (.ref t), some (.bl true)] S = .ex A.C_BadText [("told", .int (p + 1 : Nat))] Γ' S' ∧ S0 <+: S' := by
  have c1 := go_c1 A h hl (get_lt h32)
  have n1 := mT_ok (nextM A h hl (Γ := [some (.ref t)]) rfl ")")
  rw [isAt_no h32 (by decide +kernel)] at n1
  have c2 : mAnd (mT (mMeth (H_next_in A) ("next_in" : Str) 2 (m_TextWalk_next_in A) (mVar 0) (aCons (mC (.str (")" : Str))) aNil))) (mT (mOp dGt (mBlt fLen (aCons (mUn (dFld (G_own_pile A) ("own_pile" : Str)) (mVar 0)) aNil)) (mC (.int 1)))) [some (.ref t)] S = .ok false S := by
    simp only [mAnd, n1, Res.bind_ok]
  have n2 := mT_ok (nextM A h hl (Γ := [some (.ref t)]) rfl " ")
  rw [isAt_of h32 (by decide +kernel)] at n2
  have s1 := inc_ev h (Γ := [some (.ref t)]) rfl 1
  have h1 := h.at n (p + 1)
  have hz : L.length ≤ p + 1 := by omega
  have e := begin_no A h1 hl (isAt_past hz _) (isAt_past hz _) (isAt_past hz _) (isAt_past hz _) 11
  have em : mMeth (H_begin_item A) ("begin_item" : Str) 1 (m_TextWalk_begin_item A 12) (mVar 0) aNil [some (.ref t)] (S.set t (twO A L (p + 1) r q)) = .exc A.C_BadText [("told", .int (p + 1 : Nat))] (S.set t (twO A L (p + 1) r q)) :=
    meth_ok (n := 1) (b := aNil) (mVar_ev rfl) h1.tw (h_begin_item A) (lk_tw_begin_item ..) (aNil_ev _ _) rfl e
  have ed : sDrop (mMeth (H_begin_item A) ("begin_item" : Str) 1 (m_TextWalk_begin_item A 12) (mVar 0) aNil) [some (.ref t)] (S.set t (twO A L (p + 1) r q)) = .ex A.C_BadText [("told", .int (p + 1 : Nat))] [some (.ref t)] (S.set t (twO A L (p + 1) r q)) := by
    simp only [sDrop, em, Res.toS_exc]
  have eg : m_TextWalk_go_on A [.ref t] S = .exc A.C_BadText [("told", .int (p + 1 : Nat))] (S.set t (twO A L (p + 1) r q)) := by
    have q1 := (sIf_f (a := sRet (mC (.bl false))) (b := sPass) c1).trans rfl
    have q2 := (sSeq_nx s1).trans ed
    have q3 := (sIf_t (b := sDrop (mMeth (H_refuse_here A) ("refuse_here" : Str) 1 (m_TextWalk_refuse_here A) (mVar 0) aNil)) n2).trans q2
    have q4 := (sIf_f (a := sDrop (mMeth (H_close_item A) ("close_item" : Str) 1 (m_TextWalk_close_item A) (mVar 0) aNil)) c2).trans q3
    exact runF_ex ((sSeq_nx q1).trans (sSeq_ex q4))
  have eb : mMeth (H_go_on A) ("go_on" : Str) 1 (m_TextWalk_go_on A) (mVar 0) aNil [some (.ref t), some (.bl true)] S = .exc A.C_BadText [("told", .int (p + 1 : Nat))] (S.set t (twO A L (p + 1) r q)) :=
    meth_ok (n := 1) (b := aNil) (mVar_ev rfl) h.tw (h_go_on A) (lk_tw_go_on ..) (aNil_ev _ _) rfl eg
  have ew : B_TextWalk_walked_rows_1 A [some (.ref t), some (.bl true)] S = .ex A.C_BadText [("told", .int (p + 1 : Nat))] [some (.ref t), some (.bl true)] (S.set t (twO A L (p + 1) r q)) := by
    simp only [B_TextWalk_walked_rows_1, sAsg, eb, Res.toS_exc]
  have ec : mT (mVar 1) [some (.ref t), some (.bl true)] S = .ok true S := rfl
  refine ⟨[some (.ref t), some (.bl true)], S.set t (twO A L (p + 1) r q), ?_, h1.base⟩
  rw [whL, ec]
  simp only [Res.toS_ok, if_true, ew]
end
end K68
end

section
set_option Elab.async false
set_option linter.all false
set_option maxRecDepth 100000
set_option maxHeartbeats 4000000
namespace K68
open PySem PySem.Spec PyProof.Rows L2 Fx TL
/-- where a text with a blank behind it is refused -/
def blankAt (its : List It) : Nat := if its = [] then 0 else (jn its).length + 1
theorem walked_no (A : Ads) (n : Ne A) {S0 S : Sto} {t r q : Nat} {o : Op} {its : List It} (g : Goods 3 its) (hl4 : its.length ≤ 4) (h : PS A S0 S t (jn its ++ [32]) 0 r q [] [o]) (ho : o.path = []) (hm : o.many = 0) :
    ∃ S', m_TextWalk_walked_rows A [.ref t] S = .exc A.C_BadText [("told", .int (blankAt its))] S' ∧ S0 <+: S' := by
  have hasc : ∀ c ∈ jn its ++ [32], c < 128 := fun c hc => by
    rcases List.mem_append.mp hc with hc | hc
    · exact jn_asc g c hc
    · have : c = 32 := by simpa using hc
      omega
  have hlen := jn_len g hl4
  have hL : (jn its ++ [32]).length = (jn its).length + 1 := by simp
  have c1 := ne_empty A h hasc
  have hne : (jn its ++ [32]).isEmpty = false := by cases jn its <;> rfl
  rw [hne] at c1
  have c1 : mT (mOp dNe (mUn (dFld (G_own_text A) ("own_text" : Str)) (mVar 0)) (mC (.str ("" : Str)))) (enter 2 [.ref t]) S = .ok true S := c1
  have hb : big = 1000000 := rfl
  cases its with
  | nil =>
    have h32 : (jn [] ++ [32])[0]? = some 32 := rfl
    have e := begin_no A h (by omega) (isAt_no h32 (by rw [tl_fig]; decide)) (isAt_no h32 (by rw [tl_let]; decide)) (isAt_no h32 (by decide +kernel)) (isAt_no h32 (by decide +kernel)) 11
    have em : mMeth (H_begin_item A) ("begin_item" : Str) 1 (m_TextWalk_begin_item A 12) (mVar 0) aNil [some (.ref t), none] S = .exc A.C_BadText [("told", .int (0 : Nat))] S :=
      meth_ok (n := 1) (b := aNil) (mVar_ev rfl) h.tw (h_begin_item A) (lk_tw_begin_item ..) (aNil_ev _ _) rfl e
    have ed : sDrop (mMeth (H_begin_item A) ("begin_item" : Str) 1 (m_TextWalk_begin_item A 12) (mVar 0) aNil) [some (.ref t), none] S = .ex A.C_BadText [("told", .int (0 : Nat))] [some (.ref t), none] S := by
      simp only [sDrop, em, Res.toS_exc]
    exact ⟨S, runF_ex (sSeq_ex ((sIf_t c1).trans (sSeq_ex ed))), h.base⟩
  | cons x xs =>
    obtain ⟨S1, S2, k, rs', e1, t1, hk, h2, hrs⟩ := run_all A n h ho hm (fun c hc => by have := hasc c hc; omega) g hl4 (tail := [32]) rfl (by omega) (.inr rfl)
    have em : mMeth (H_begin_item A) ("begin_item" : Str) 1 (m_TextWalk_begin_item A 12) (mVar 0) aNil [some (.ref t), none] S = .ok .non S1 :=
      meth_ok (n := 1) (b := aNil) (mVar_ev rfl) h.tw (h_begin_item A) (lk_tw_begin_item ..) (aNil_ev _ _) rfl e1
    obtain ⟨N, hN⟩ : ∃ N, big = k + (N + 1) := ⟨big - k - 1, by omega⟩
    have h32 : (jn (x :: xs) ++ [32])[(jn (x :: xs)).length]? = some 32 := by simp
    obtain ⟨Γ', S3, e3, b3⟩ := blank_end A n h2 (by omega) h32 (by omega) N
    have ew : sWhile big (mT (mVar 1)) (B_TextWalk_walked_rows_1 A) [some (.ref t), some (.bl true)] S1 = .ex A.C_BadText [("told", .int ((jn (x :: xs)).length + 1 : Nat))] Γ' S3 := by
      unfold sWhile
      rw [hN, t1 (N + 1)]
      exact e3
    have sa : sAsg (gN 1) (mC (.bl true)) [some (.ref t), none] S1 = .nx [some (.ref t), some (.bl true)] S1 := rfl
    exact ⟨S3, runF_ex (sSeq_ex ((sIf_t c1).trans ((sSeq_nx (sDrop_ok em)).trans ((sSeq_nx sa).trans ew)))), b3⟩
end K68
end

section
set_option Elab.async false
set_option linter.all false
set_option maxRecDepth 100000
set_option maxHeartbeats 4000000
namespace K68
open PySem PySem.Spec PyProof.Rows L2 Fx TL
theorem told_blank (A : Ads) (n : Ne A) (nb : A.C_BadText ≠ A.C_NoIndex) {its : List It} (g : Goods 3 its) (hl4 : its.length ≤ 4) (d : D) (S : Sto) :
    ∃ S', m__law_told A [.str (Sr' (jn its ++ [32])), d] S = .ok (.lst [.str "text", .int (blankAt its)]) S' ∧ S <+: S' := by
  obtain ⟨S1, e1, h1⟩ := tw_make A n S (jn its ++ [32])
  obtain ⟨S2, e2, b2⟩ := walked_no A n g hl4 h1 rfl rfl
  have em : mMake A.C_TextWalk 2 (m_TextWalk___init__ A) (aCons (mVar 0) aNil) [some (.str (Sr' (jn its ++ [32])))] S = .ok (.ref S.length) S1 := by
    have ea : aCons (mVar 0) aNil [some (.str (Sr' (jn its ++ [32])))] S = .ok [.str (Sr' (jn its ++ [32]))] S := rfl
    simp [mMake, ea, Res.bind, arg, e1]
  have ec : mT (mIsi "str" (mVar 0)) [some (.str (Sr' (jn its ++ [32])))] S = .ok true S := rfl
  have ew := meth_ok3 (m := ("walked_rows" : Str)) (n := 1) (b := aNil) em h1.tw (h_walked_rows A) (lk_tw_walked_rows ..) (aNil_ev _ _) rfl e2
  have er : sRet (mMeth (H_walked_rows A) ("walked_rows" : Str) 1 (m_TextWalk_walked_rows A) (mMake A.C_TextWalk 2 (m_TextWalk___init__ A) (aCons (mVar 0) aNil)) aNil) [some (.str (Sr' (jn its ++ [32])))] S = .ex A.C_BadText [("told", .int (blankAt its))] [some (.str (Sr' (jn its ++ [32])))] S2 := by
    simp [sRet, ew, Res.toS]
  have ex : m_rows_of_text A [.str (Sr' (jn its ++ [32]))] S = .exc A.C_BadText [("told", .int (blankAt its))] S2 :=
    runF_ex ((sSeq_nx ((sIf_f (mNot_ok ec)).trans rfl)).trans er)
  refine ⟨S2, told_text A nb ?_, b2⟩
  have ek : mCall 1 (m_rows_of_text A) (aCons (mVar 0) aNil) (enter 5 [.str (Sr' (jn its ++ [32])), d]) S = .exc A.C_BadText [("told", .int (blankAt its))] S2 := by
    have ea : aCons (mVar 0) aNil (enter 5 [.str (Sr' (jn its ++ [32])), d]) S = .ok [.str (Sr' (jn its ++ [32]))] S := rfl
    simp only [mCall, ea, Res.bind_ok, arg, List.length_cons, List.length_nil, if_true, ex]
  unfold m_item_at runF
  simp only [sSeq, sAsg, ek, Res.toS_exc]
end K68
end

section
set_option Elab.async false
set_option linter.all false
set_option maxRecDepth 100000
set_option maxHeartbeats 1000000
namespace K68
open PySem PySem.Spec PyProof.Rows L2 Fx TL
theorem mul_ok (i : Int) {j : Int} (h : 0 ≤ j) (h2 : j < 1000000) (S : Sto) : dMul (.int i) (.int j) S = .ok (.int (i * j)) S := by
  have : CMul i j := .inr ⟨by omega, by omega⟩
  simp [dIC, this]
theorem pool_tail (A : Ads) (x0 : D) {k : Int} (h0 : 0 ≤ k) (h1 : k ≤ 3) (x : Int) (S : Sto) :
    ∃ a b, (sSeq (sAsg (gN 3) (mBlt fMax2 (aCons (mBlt fInt (aCons (mVar 2) aNil)) (aCons (mBlt fInt (aCons (mOp dSub (mUn dNeg (mC (.int 1))) (mVar 2)) aNil)) aNil)))) sPass) [some x0, some (.int k), some (.int x), none, none] S = .nx [some x0, some (.int k), some (.int x), some (.int a), none] S ∧ b = a := by
  refine ⟨if -1 - x > x then -1 - x else x, _, ?_, rfl⟩
  have e1 : mBlt fInt (aCons (mVar 2) aNil) [some x0, some (.int k), some (.int x), none, none] S = .ok (.int x) S := rfl
  have e2 : mBlt fInt (aCons (mOp dSub (mUn dNeg (mC (.int 1))) (mVar 2)) aNil) [some x0, some (.int k), some (.int x), none, none] S = .ok (.int (-1 - x)) S := rfl
  have e3 : mBlt fMax2 (aCons (mBlt fInt (aCons (mVar 2) aNil)) (aCons (mBlt fInt (aCons (mOp dSub (mUn dNeg (mC (.int 1))) (mVar 2)) aNil)) aNil)) [some x0, some (.int k), some (.int x), none, none] S = .ok (.int (if -1 - x > x then -1 - x else x)) S := by
    simp only [mBlt, aCons, aNil] at e1 e2 ⊢
    simp [e1, e2, fMax2, mBlt, aCons, aNil]
    rfl
  exact (sSeq_nx (sAsg_ok e3)).trans rfl
end K68
end

section
set_option Elab.async false
set_option linter.all false
set_option maxRecDepth 100000
set_option maxHeartbeats 1000000
namespace K68
open PySem PySem.Spec PyProof.Rows L2 Fx TL
theorem mod_ok (i : Int) {j : Int} (h : 0 < j) (S : Sto) : dMod (.int i) (.int j) S = .ok (.int (i % j)) S := by
  simp only [dIC, h, if_true]
theorem mOp_ok {f : D → D → Sto → Res D} {a b : Ed} {Γ : En} {S S1 S2 : Sto} {x y : D} (ha : a Γ S = .ok x S1) (hb : b Γ S1 = .ok y S2) : mOp f a b Γ S = f x y S2 := by
  simp only [mOp, ha, Res.bind_ok, hb]
theorem bInt_ok {a : Ed} {Γ : En} {S S1 : Sto} {i : Int} (ha : a Γ S = .ok (.int i) S1) : mBlt fInt (aCons a aNil) Γ S = .ok (.int i) S1 := by
  simp only [mBlt, aCons, aNil, ha, Res.bind_ok, fInt]
theorem bIntB_ok {a : Ed} {Γ : En} {S S1 : Sto} {b : Bool} (ha : a Γ S = .ok (.bl b) S1) : mBlt fInt (aCons a aNil) Γ S = .ok (.int (if b then 1 else 0)) S1 := by
  simp only [mBlt, aCons, aNil, ha, Res.bind_ok, fInt]
theorem pow_ok (i : Int) {j : Int} (h : CPow i j) (S : Sto) : dPow (.int i) (.int j) S = .ok (.int (i ^ j.toNat)) S := by
  simp only [dIC, h, if_true]
theorem ge_ok (i j : Int) (S : Sto) : dGe (.int i) (.int j) S = .ok (.bl (decide (i ≥ j))) S := rfl
theorem mul_b (i : Int) (b : Bool) (S : Sto) : dMul (.int i) (.int (if b then 1 else 0)) S = .ok (.int (i * (if b then 1 else 0))) S := by
  cases b
  · exact mul_ok _ (by decide) (by decide) S
  · exact mul_ok _ (by decide) (by decide) S
theorem pool_t1 {Γ : En} {S : Sto} {k y : Int} (hk0 : 0 ≤ k) (hk : k ≤ 3) (v1 : mVar 1 Γ S = .ok (.int k) S) (v3 : mVar 3 Γ S = .ok (.int y) S) : ∃ z, mOp dMod (mBlt fInt (aCons (mOp dMul (mOp (dAdd true) (mOp (dAdd true) (mOp (dAdd true) (mOp dMod (mBlt fInt (aCons (mVar 3) aNil)) (mC (.int 2147483629))) (mOp dMul (mOp dMul (mC (.int 4093)) (mVar 1)) (mVar 1))) (mOp dMul (mC (.int 29)) (mVar 1))) (mC (.int 31))) (mC (.int 48271))) aNil)) (mC (.int 2147483647)) Γ S = .ok (.int z) S := by
  have a1 := (mOp_ok (bInt_ok v3) (mC_ev (.int 2147483629) Γ S)).trans (mod_ok y (by omega) S)
  have a2 := (mOp_ok (mC_ev (.int 4093) Γ S) v1).trans (mul_ok _ (by omega) (by omega) S)
  have a3 := (mOp_ok a2 v1).trans (mul_ok _ (by omega) (by omega) S)
  have a4 := (mOp_ok a1 a3).trans (add_ii true _ _ S)
  have a5 := (mOp_ok (mC_ev (.int 29) Γ S) v1).trans (mul_ok _ (by omega) (by omega) S)
  have a6 := (mOp_ok a4 a5).trans (add_ii true _ _ S)
  have a7 := (mOp_ok a6 (mC_ev (.int 31) Γ S)).trans (add_ii true _ _ S)
  have a8 := (mOp_ok a7 (mC_ev (.int 48271) Γ S)).trans (mul_ok _ (by omega) (by omega) S)
  have a9 := (mOp_ok (bInt_ok a8) (mC_ev (.int 2147483647) Γ S)).trans (mod_ok _ (by omega) S)
  exact ⟨_, a9⟩
theorem pool_t2 {Γ : En} {S : Sto} {y z : Int} (v3 : mVar 3 Γ S = .ok (.int y) S) (v4 : mVar 4 Γ S = .ok (.int z) S) (hp : CPow 10 18) :
    ∃ a, mLst false (aCons (mOp dMul (mVar 3) (mBlt fInt (aCons (mOp dGe (mVar 3) (mOp dPow (mC (.int 10)) (mC (.int 18)))) aNil))) (aCons (mVar 4) aNil)) Γ S = .ok (.ref S.length) (S ++ [pl a z]) := by
  have e1 := (mOp_ok (Γ := Γ) (S := S) (mC_ev _ _ _) (mC_ev _ _ _)).trans (pow_ok 10 hp S)
  have e2 := (mOp_ok v3 e1).trans (ge_ok _ _ S)
  have e3 := (mOp_ok v3 (bIntB_ok e2)).trans (mul_b _ _ S)
  have e4 := e3
  generalize y * (if decide (y ≥ 10 ^ Int.toNat 18) = true then 1 else 0) = a at e4
  refine ⟨a, ?_⟩
  have e5 : aCons (mOp dMul (mVar 3) (mBlt fInt (aCons (mOp dGe (mVar 3) (mOp dPow (mC (.int 10)) (mC (.int 18)))) aNil))) (aCons (mVar 4) aNil) Γ S = .ok [.int a, .int z] S := by
    simp only [aCons, aNil] at e4 ⊢
    simp only [e4, v4, Res.bind_ok]
  simp only [mLst, e5, Res.bind_ok]
  rfl
end K68
end

section
set_option Elab.async false
set_option linter.all false
set_option maxRecDepth 100000
set_option maxHeartbeats 1000000
namespace K68
open PySem PySem.Spec PyProof.Rows L2 Fx TL
theorem cpow18 : CPow 10 18 := ⟨by decide, by decide, by decide⟩
theorem cpow20 : CPow 10 20 := ⟨by decide, by decide, by decide⟩
theorem pool_s1 {x0 : Option D} {ns : List Int} (hx : x0 = some (.fz (ns.map D.int))) (k : Nat) (S : Sto) :
    ∃ x : Int, (sIf (mT (mOp dLt (mVar 1) (mBlt fLen (aCons (mVar 0) aNil)))) (sAsg (gN 2) (mOp dIx (mVar 0) (mVar 1))) sPass) [x0, some (.int k), some (.int 0), none, none] S = .nx [x0, some (.int k), some (.int x), none, none] S := by
  subst hx
  have el : mBlt fLen (aCons (mVar 0) aNil) [some (.fz (ns.map D.int)), some (.int k), some (.int 0), none, none] S = .ok (.int ns.length) S := by
    have hv : aCons (mVar 0) aNil [some (.fz (ns.map D.int)), some (.int k), some (.int 0), none, none] S = .ok [.fz (ns.map D.int)] S := rfl
    simp [mBlt, hv, fLen, dSq, dL]
  have hv : mVar 1 [some (.fz (ns.map D.int)), some (.int k), some (.int 0), none, none] S = .ok (.int k) S := rfl
  have ec : mT (mOp dLt (mVar 1) (mBlt fLen (aCons (mVar 0) aNil))) [some (.fz (ns.map D.int)), some (.int k), some (.int 0), none, none] S = .ok (decide (k < ns.length)) S := by
    have h2 : ((k : Int) < (ns.length : Int)) ↔ k < ns.length := Int.ofNat_lt
    simp only [mT, mOp, hv, Res.bind_ok, el, dLt, dII, h2]
  by_cases z : k < ns.length
  · rw [decide_eq_true z] at ec
    have ei : mOp dIx (mVar 0) (mVar 1) [some (.fz (ns.map D.int)), some (.int k), some (.int 0), none, none] S = .ok (.int ns[k]) S := by
      have h0 : mVar 0 [some (.fz (ns.map D.int)), some (.int k), some (.int 0), none, none] S = .ok (.fz (ns.map D.int)) S := rfl
      have ha : atI (ns.map D.int) (k : Int) = some (.int ns[k]) := by
        unfold atI
        have hz : ixN (ns.map D.int).length (k : Int) = some k := by
          unfold ixN
          have q : (k : Int) < ((ns.map D.int).length : Int) := by rw [List.length_map]; omega
          rw [if_pos (Int.natCast_nonneg k), if_pos q]
          rfl
        rw [hz]
        simp [z]
      simp [mOp, h0, hv, dIx, dSq, dL, ha]
    exact ⟨ns[k], (sIf_t ec).trans (sAsg_ok ei)⟩
  · rw [decide_eq_false z] at ec
    exact ⟨0, (sIf_f ec).trans rfl⟩
theorem pool_s2 (x0 : Option D) (k x : Int) (S : Sto) :
    ∃ y : Int, sAsg (gN 3) (mBlt fMax2 (aCons (mBlt fInt (aCons (mVar 2) aNil)) (aCons (mBlt fInt (aCons (mOp dSub (mUn dNeg (mC (.int 1))) (mVar 2)) aNil)) aNil))) [x0, some (.int k), some (.int x), none, none] S = .nx [x0, some (.int k), some (.int x), some (.int y), none] S := by
  refine ⟨if -1 - x > x then -1 - x else x, ?_⟩
  have e1 : mBlt fInt (aCons (mVar 2) aNil) [x0, some (.int k), some (.int x), none, none] S = .ok (.int x) S := rfl
  have e2 : mBlt fInt (aCons (mOp dSub (mUn dNeg (mC (.int 1))) (mVar 2)) aNil) [x0, some (.int k), some (.int x), none, none] S = .ok (.int (-1 - x)) S := rfl
  have e3 : mBlt fMax2 (aCons (mBlt fInt (aCons (mVar 2) aNil)) (aCons (mBlt fInt (aCons (mOp dSub (mUn dNeg (mC (.int 1))) (mVar 2)) aNil)) aNil)) [x0, some (.int k), some (.int x), none, none] S = .ok (.int (if -1 - x > x then -1 - x else x)) S := by
    simp only [mBlt, aCons, aNil] at e1 e2 ⊢
    simp [e1, e2, fMax2, mBlt, aCons, aNil]
    rfl
  exact (sAsg_ok e3).trans rfl
theorem pool_ev (A : Ads) {ns : List Int} {k : Nat} (h1 : k ≤ 3) (S : Sto) :
    ∃ a b, m__law_pool A [.fz (ns.map D.int), .int k] S = .ok (.ref S.length) (S ++ [pl a b]) := by
  obtain ⟨x, s1⟩ := pool_s1 (x0 := some (.fz (ns.map D.int))) rfl k S
  obtain ⟨y, s2⟩ := pool_s2 (some (.fz (ns.map D.int))) k x S
  obtain ⟨z, s3⟩ := pool_t1 (Γ := [some (.fz (ns.map D.int)), some (D.int k), some (.int x), some (.int y), none]) (S := S) (k := (k : Int)) (y := y) (by omega) (by omega) rfl rfl
  obtain ⟨a, s4⟩ := pool_t2 (Γ := [some (.fz (ns.map D.int)), some (D.int k), some (.int x), some (.int y), some (.int z)]) (S := S) (y := y) (z := z) rfl rfl cpow18
  refine ⟨a, z, runF_rt ?_⟩
  have s0 : sAsg (gN 2) (mC (.int 0)) (enter 5 [.fz (ns.map D.int), .int k]) S = .nx [some (.fz (ns.map D.int)), some (.int k), some (.int 0), none, none] S := rfl
  refine (sSeq_nx s0).trans ((sSeq_nx s1).trans ((sSeq_nx s2).trans ((sSeq_nx (sAsg_ok s3)).trans ?_)))
  show sRet _ [some (.fz (ns.map D.int)), some (D.int k), some (.int x), some (.int y), some (.int z)] S = _
  simp only [sRet, s4, Res.toS_ok]
end K68
end

section
set_option Elab.async false
set_option linter.all false
set_option maxRecDepth 100000
set_option maxHeartbeats 2000000
namespace K68
open PySem PySem.Spec PyProof.Rows L2 Fx TL
theorem dNe_nil {l : List Row} {m : Nat} {S : Sto} (h : S[m]? = some (.lst (rowsD l))) : dNe (.ref m) (.lst []) S = .ok (.bl (decide (l ≠ []))) S := by
  obtain ⟨ps, e, c, z⟩ := cmp_rows l 0
  have c' : PyData.canLay0 (.list ps) = true := by rw [PyData.canLay0]; exact c
  have hs : SeqAt.shaped (.list ps) = true := by
    unfold SeqAt.shaped
    rw [c']
    have : PyData.depth (.list ps) ≤ 64 := by rw [PyData.depth]; omega
    simpa using this
  have e1 : toPyS S (.lst []) = some (.list []) := rfl
  have e2 : toPyS S (.ref m) = some (.list ps) := by
    simp only [toPyS, h, e]; rfl
  have hn : SeqAt.shaped (.list []) = true := by decide +kernel
  simp only [dEqG, e1, e2, hs, hn, and_self, if_true]
  cases l with
  | nil =>
    have : ps = [] := by
      have e : some [] = some ps := e
      cases e; rfl
    subst this
    rfl
  | cons r l =>
    cases ps with
    | nil =>
      have e : toPys (rowD r :: rowsD l) = some [] := e
      rw [toPys] at e
      split at e
      · cases e
      · cases e
    | cons p ps => rfl
theorem bor_f {a b : Bd} {Γ : En} {S S1 S2 : Sto} (h1 : a Γ S = .ok false S1) (h2 : b Γ S1 = .ok false S2) : mOr a b Γ S = .ok false S2 := by
  simp only [mOr, h1, Res.bind_ok, h2]
theorem call1_ok {f : Fn} {a : Ed} {Γ : En} {S S1 : Sto} {x : D} {r : Res D} (h : a Γ S = .ok x S1) (e : f [x] S1 = r) : mCall 1 f (aCons a aNil) Γ S = r := by
  simp only [mCall, aCons, aNil, h, Res.bind_ok, arg, List.length_cons, List.length_nil, if_true, e]
theorem call2_ok {f : Fn} {a b : Ed} {Γ : En} {S S1 S2 : Sto} {x y : D} {r : Res D} (h : a Γ S = .ok x S1) (h2 : b Γ S1 = .ok y S2) (e : f [x, y] S2 = r) : mCall 2 f (aCons a (aCons b aNil)) Γ S = r := by
  simp only [mCall, aCons, aNil, h, h2, Res.bind_ok, arg, List.length_cons, List.length_nil, if_true, e]
theorem call3_ok {f : Fn} {a b c : Ed} {Γ : En} {S S1 S2 S3 : Sto} {x y z : D} {r : Res D} (h : a Γ S = .ok x S1) (h2 : b Γ S1 = .ok y S2) (h3 : c Γ S2 = .ok z S3) (e : f [x, y, z] S3 = r) : mCall 3 f (aCons a (aCons b (aCons c aNil))) Γ S = r := by
  simp only [mCall, aCons, aNil, h, h2, h3, Res.bind_ok, arg, List.length_cons, List.length_nil, if_true, e]
/-- the four turns -/
theorem law3_loop (A : Ads) (ne : Ne A) {its : List It} (g : Goods 3 its) (hl4 : its.length ≤ 4) {S : Sto} {n m : Nat} (h : LI n m (spns its [] 0 0) S) (x0 x1 x3 x6 x7 x8 x9 x10 x11 x12 x13 : Option D) :
    ∃ y6 y7 y8 y9 y10 y11 y12 S', sFor (iRg rng1 (aCons (mIf (mT (mOp dNe (mVar 5) (mLst true aNil))) (mC (.int 4)) (mC (.int 0))) aNil)) (gN 6) (B_law_3 A) (lwG x0 x1 (some (.ref n)) x3 (some (.str (Sr' (jn its)))) (some (.ref m)) x6 x7 x8 x9 x10 x11 x12 x13) S = .nx (lwG x0 x1 (some (.ref n)) x3 (some (.str (Sr' (jn its)))) (some (.ref m)) y6 y7 y8 y9 y10 y11 y12 x13) S' ∧ LI n m (spns its [] 0 0) S' := by
  let Γ0 := lwG x0 x1 (some (.ref n)) x3 (some (.str (Sr' (jn its)))) (some (.ref m)) x6 x7 x8 x9 x10 x11 x12 x13
  have ec : mT (mOp dNe (mVar 5) (mLst true aNil)) Γ0 S = .ok (decide (spns its [] 0 0 ≠ [])) S := by
    have e1 : mVar 5 Γ0 S = .ok (.ref m) S := rfl
    have e2 : mLst true aNil Γ0 S = .ok (.lst []) S := rfl
    exact mT_ok ((mOp_ok e1 e2).trans (dNe_nil h.2.2))
  obtain ⟨t, et, ht⟩ : ∃ t : Nat, mIf (mT (mOp dNe (mVar 5) (mLst true aNil))) (mC (.int 4)) (mC (.int 0)) Γ0 S = .ok (.int (t : Nat)) S ∧ (t = 0 ∨ (t = 4 ∧ spns its [] 0 0 ≠ [])) := by
    by_cases z : spns its [] 0 0 ≠ []
    · rw [decide_eq_true z] at ec
      exact ⟨4, by simp only [mIf, ec, Res.bind_ok]; rfl, .inr ⟨rfl, z⟩⟩
    · rw [decide_eq_false z] at ec
      exact ⟨0, by simp only [mIf, ec, Res.bind_ok]; rfl, .inl rfl⟩
  have hb : InB (t : Nat) := by rcases ht with rfl | ⟨rfl, _⟩ <;> decide
  have eq := iRg_nat et hb
  let I : Nat → En → Sto → Prop := fun i Γ S' => LI n m (spns its [] 0 0) S' ∧ ∃ y6 y7 y8 y9 y10 y11 y12, Γ = lwG x0 x1 (some (.ref n)) x3 (some (.str (Sr' (jn its)))) (some (.ref m)) y6 y7 y8 y9 y10 y11 y12 x13
  obtain ⟨Γ', S', e3, hI, y6, y7, y8, y9, y10, y11, y12, rfl⟩ := lpF_all (s := .rng 0 t) (tg := gN 6) (b := B_law_3 A) (I := I) (rgD t)
    (fun i Γ S1 hI => rg_it t i S1)
    (fun i hi Γ S1 hI => by
      have ht2 : i < t := by simpa [rgD] using hi
      obtain ⟨hI, y6, y7, y8, y9, y10, y11, y12, rfl⟩ := hI
      have h0 : spns its [] 0 0 ≠ [] := by rcases ht with rfl | ⟨_, z⟩; omega; exact z
      obtain ⟨z7, z8, z9, z10, z11, z12, S2, e2, h2⟩ := law3_turn A ne g hl4 h0 hI x0 x1 x3 (some (rgD t)[i]) y7 y8 y9 y10 y11 y12 x13
      exact ⟨_, rfl, _, _, e2, h2, _, _, _, _, _, _, _, rfl⟩)
    (t + 1) 0 Γ0 S ⟨h, _, _, _, _, _, _, _, rfl⟩ (Nat.zero_le _) (by simp [rgD])
  exact ⟨y6, y7, y8, y9, y10, y11, y12, S', sFor_nx eq e3, hI⟩
end K68
end

section
set_option Elab.async false
set_option linter.all false
set_option maxRecDepth 100000
set_option maxHeartbeats 2000000
namespace K68
open PySem PySem.Spec PyProof.Rows L2 Fx TL
def oddD (n : Nat) : List D := [.int (-1), .int n, .bl true, .non, .str "0", .int (10 ^ (20 : Int).toNat)]
theorem odd_ok (n : Nat) : ∀ d ∈ oddD n, Plain d ∧ Cmp d 10 ∧ (n ≤ 2000 → IsD d ((n : Int) - 1) = false) := by
  intro d hd
  simp only [oddD, List.mem_cons, List.not_mem_nil, or_false] at hd
  rcases hd with rfl | rfl | rfl | rfl | rfl | rfl
  · exact ⟨trivial, .int _ _, fun _ => by simp [IsD]⟩
  · exact ⟨trivial, .int _ _, fun _ => by simp [IsD]; omega⟩
  · exact ⟨trivial, .bl _ _, fun _ => rfl⟩
  · exact ⟨trivial, .non _, fun _ => rfl⟩
  · exact ⟨trivial, .str (by decide +kernel) _, fun _ => rfl⟩
  · refine ⟨trivial, .int _ _, fun h => ?_⟩
    have e : (10 : Int) ^ (20 : Int).toNat = 100000000000000000000 := by decide +kernel
    rw [e]
    simp only [IsD, Bool.and_eq_false_iff, decide_eq_false_iff_not]
    right
    omega
theorem len4_ok {x : List Nat} (hl : x.length ≤ 100000) {Γ : En} {S : Sto} (h : mVar 4 Γ S = .ok (.str (Sr' x)) S) : mBlt fLen (aCons (mVar 4) aNil) Γ S = .ok (.int x.length) S := by
  have ha : aCons (mVar 4) aNil Γ S = .ok [.str (Sr' x)] S := by simp only [aCons, aNil, h, Res.bind_ok]
  simp only [mBlt, ha, Res.bind_ok, len_str x S hl]
theorem odd_list {x : List Nat} (hl : x.length ≤ 2000) {Γ : En} {S : Sto} (h : mVar 4 Γ S = .ok (.str (Sr' x)) S) : iSeq (mLst true (aCons (mUn dNeg (mC (.int 1))) (aCons (mBlt fLen (aCons (mVar 4) aNil)) (aCons (mC (.bl true)) (aCons (mC .non) (aCons (mC (.str ("0" : Str))) (aCons (mOp dPow (mC (.int 10)) (mC (.int 20))) aNil))))))) Γ S = .ok (.seq (.lst (oddD x.length))) S := by
  have e1 : mUn dNeg (mC (.int 1)) Γ S = .ok (.int (-1)) S := rfl
  have e2 := len4_ok (by omega) h
  have e3 := (mOp_ok (Γ := Γ) (S := S) (mC_ev (.int 10) _ _) (mC_ev (.int 20) _ _)).trans (pow_ok 10 cpow20 S)
  have ea : aCons (mUn dNeg (mC (.int 1))) (aCons (mBlt fLen (aCons (mVar 4) aNil)) (aCons (mC (.bl true)) (aCons (mC .non) (aCons (mC (.str ("0" : Str))) (aCons (mOp dPow (mC (.int 10)) (mC (.int 20))) aNil))))) Γ S = .ok (oddD x.length) S := by
    simp only [aCons, aNil, Res.bind_ok, mC_ev, e1, e2, e3]
    rfl
  simp only [iSeq, mLst, ea, Res.bind_ok]
  rfl
theorem add_blank {x : List Nat} (hl : x.length ≤ 2000) (S : Sto) : dAdd true (.str (Sr' x)) (.str " ") S = .ok (.str (Sr' (x ++ [32]))) S := by
  have h : (Sr' x).length + (" " : Str).length ≤ big := by
    rw [sr_len]
    have : (" " : Str).length = 1 := by decide +kernel
    have hb : big = 1000000 := rfl
    omega
  have e : (Sr' x) ++ (" " : Str) = Sr' (x ++ [32]) := by
    refine ext_tl ?_
    rw [tl_append]
    show x ++ tl (" " : Str) = x ++ [32]
    rw [tl_blank]
  simp only [dAdd, h, if_true, e]
theorem ne_emptyD {L : List Nat} (hasc : ∀ c ∈ L, c < 128) {Γ : En} {S : Sto} (h : mVar 4 Γ S = .ok (.str (Sr' L)) S) : mOp dNe (mVar 4) (mC (.str ("" : Str))) Γ S = .ok (.bl (!(L.isEmpty))) S := by
  have hok : PyData.strOk (Sr' L) = true := strOk_of fun c hc => by have := hasc c hc; omega
  have hq := dNe_str hok (by decide +kernel : PyData.strOk ("" : Str) = true) S
  have hz : ("" : Str) = Sr' [] := ext_tl (by decide +kernel)
  have hb : (Sr' L == ("" : Str)) = L.isEmpty := by
    rw [hz]
    cases L with
    | nil => simp
    | cons c l =>
      show _ = false
      rw [beq_eq_false_iff_ne]
      intro z
      have z := congrArg tl z
      rw [tl_mk, tl_mk] at z
      cases z
  rw [hb] at hq
  exact (mOp_ok h (mC_ev _ _ _)).trans hq
theorem blank_eq {its : List It} {d : Nat} (g : Goods d its) : (blankAt its : Int) = ((jn its).length : Int) + (if !(jn its).isEmpty then 1 else 0) := by
  unfold blankAt
  cases its with
  | nil => rfl
  | cons x xs =>
    have := wl_pos g.1
    have e : (jn (x :: xs)).isEmpty = false := by
      cases h : jn (x :: xs) with
      | nil =>
        have h2 : (jn (x :: xs)).length = 0 := by rw [h]; rfl
        simp [jn] at h2
        have : (wl x).length = 0 := by rw [h2.1]; rfl
        omega
      | cons c l => rfl
    rw [e]
    simp
theorem text_lst (i : Int) {S : Sto} : dNe (.lst [.str "text", .int i]) (.lst [.str "text", .int i]) S = .ok (.bl false) S :=
  dNe_same ((Cmp.lst (.cons (.str (by decide +kernel) _) (.cons (.int _ _) (.nil 10)))).mono (by omega)) S
theorem law_end (A : Ads) (ne : Ne A) (nb : A.C_BadText ≠ A.C_NoIndex) {its : List It} (g : Goods 3 its) (hl4 : its.length ≤ 4) {Γ : En} {S : Sto} (h4 : Γ[4]? = some (some (.str (Sr' (jn its))))) :
    ∃ S', (sIf (mOr (mT (mOp dNe (mCall 2 (m__law_told A) (aCons (mOp (dAdd true) (mVar 4) (mC (.str (" " : Str)))) (aCons (mC (.int 0)) aNil))) (mLst true (aCons (mC (.str ("text" : Str))) (aCons (mOp (dAdd true) (mBlt fLen (aCons (mVar 4) aNil)) (mBlt fInt (aCons (mOp dNe (mVar 4) (mC (.str ("" : Str)))) aNil))) aNil))))) (mT (mOp dNe (mCall 2 (m__law_told A) (aCons (mC .non) (aCons (mC .non) aNil))) (mLst true (aCons (mC (.str ("text" : Str))) (aCons (mC (.int 0)) aNil)))))) (sRet (mC (.bl false))) sPass) Γ S = .nx Γ S' := by
  have hlen := jn_len g hl4
  have v4 : ∀ S, mVar 4 Γ S = .ok (.str (Sr' (jn its))) S := fun S => mVar_ev h4
  have e1 := (mOp_ok (v4 S) (mC_ev (.str " ") Γ S)).trans (add_blank hlen S)
  obtain ⟨S1, e2, _⟩ := told_blank A ne nb g hl4 (.int 0) S
  have e3 := call2_ok e1 (mC_ev (.int 0) Γ S) e2
  have e4 := (mOp_ok (len4_ok (by omega) (v4 S1)) (bIntB_ok (ne_emptyD (jn_asc g) (v4 S1)))).trans (add_ii true _ _ S1)
  rw [← blank_eq g] at e4
  have e5 : mLst true (aCons (mC (.str ("text" : Str))) (aCons (mOp (dAdd true) (mBlt fLen (aCons (mVar 4) aNil)) (mBlt fInt (aCons (mOp dNe (mVar 4) (mC (.str ("" : Str)))) aNil))) aNil)) Γ S1 = .ok (.lst [.str "text", .int (blankAt its)]) S1 := by
    simp only [mLst, aCons, aNil, Res.bind_ok, mC_ev, e4]
    rfl
  have e6 := mT_ok ((mOp_ok e3 e5).trans (text_lst _))
  have e7 := call2_ok (mC_ev .non Γ S1) (mC_ev .non Γ S1) (told_none A nb S1)
  have e8 : mLst true (aCons (mC (.str ("text" : Str))) (aCons (mC (.int 0)) aNil)) Γ S1 = .ok (.lst [.str "text", .int 0]) S1 := rfl
  have e9 := mT_ok ((mOp_ok e7 e8).trans (text_lst _))
  exact ⟨S1, (sIf_f (bor_f e6 e9)).trans rfl⟩
end K68
end

section
set_option Elab.async false
set_option linter.all false
set_option maxRecDepth 100000
set_option maxHeartbeats 2000000
namespace K68
open PySem PySem.Spec PyProof.Rows L2 Fx TL
theorem nm_ev (Γ : En) (S : Sto) : mLst true (aCons (mC (.str ("a" : Str))) (aCons (mC (.str ("b" : Str))) (aCons (mC (.str ("ab" : Str))) (aCons (mC (.str ("x1" : Str))) (aCons (mC (.str ("b12" : Str))) (aCons (mC (.str ("zzzz" : Str))) (aCons (mC (.str ("q99" : Str))) aNil))))))) Γ S = .ok namesD S := rfl
theorem tup0_ev (Γ : En) (S : Sto) : mTup aNil Γ S = .ok (pathD []) S := rfl
theorem par_ok {i j : Nat} {a b : Ed} {Γ : En} {S S1 S2 : Sto} {x y : D} (h1 : a Γ S = .ok x S1) (h2 : b Γ S1 = .ok y S2) : sPar i j (aCons a (aCons b aNil)) Γ S = .nx ((Γ.set i (some x)).set j (some y)) S2 := by
  have ea : aCons a (aCons b aNil) Γ S = .ok [x, y] S2 := by
    simp only [aCons, aNil, h1, h2, Res.bind_ok]
  simp only [sPar, ea, Res.toS_ok]
/-- pool, program, text, rows -/
theorem law5_a (A : Ads) {ns : List Int} {k : Nat} (hk : k ≤ 3) (S : Sto) (x2 x3 x4 x5 x6 x7 x8 x9 x10 x11 x12 x13 : Option D) :
    ∃ (n m : Nat) (its : List It) (S1 S2 S3 : Sto), Goods 3 its ∧ its.length ≤ 4 ∧ LI n m (spns its [] 0 0) S3 ∧
      sAsg (gN 2) (mCall 2 (m__law_pool A) (aCons (mVar 0) (aCons (mVar 1) aNil))) (lwG (some (.fz (ns.map D.int))) (some (.int k)) x2 x3 x4 x5 x6 x7 x8 x9 x10 x11 x12 x13) S = .nx (lwG (some (.fz (ns.map D.int))) (some (.int k)) (some (.ref n)) x3 x4 x5 x6 x7 x8 x9 x10 x11 x12 x13) S1 ∧
      m__law_program A [.ref n, namesD] S1 = .ok (.tup (itDs its)) S2 ∧
      m__law_spans A 12 [.tup (itDs its), pathD [], .int (0 : Nat)] S2 = .ok (.ref m) S3 := by
  obtain ⟨a, b, e1⟩ := pool_ev A (ns := ns) hk S
  have v0 : mVar 0 (lwG (some (.fz (ns.map D.int))) (some (.int k)) x2 x3 x4 x5 x6 x7 x8 x9 x10 x11 x12 x13) S = .ok (.fz (ns.map D.int)) S := rfl
  have v1 : mVar 1 (lwG (some (.fz (ns.map D.int))) (some (.int k)) x2 x3 x4 x5 x6 x7 x8 x9 x10 x11 x12 x13) S = .ok (.int k) S := rfl
  have s1 := sAsg_ok (i := 2) (call2_ok v0 v1 e1)
  obtain ⟨S1, hS⟩ : ∃ S1, S1 = S ++ [pl a b] := ⟨_, rfl⟩
  have hn : S.length < S1.length := by rw [hS]; simp
  have hS1 : Sp S1 S.length a b = S1 := by rw [hS]; simp [Sp]
  obtain ⟨its, a2, b2, e2, g, hl4⟩ := prog_ev A hn a b
  rw [hS1] at e2
  obtain ⟨m, S3, e4, p3, hm, hr⟩ := spans_ev A 12 3 its [] 0 (Sp S1 S.length a2 b2) g hl4 (by omega) (by omega) (by simp)
  have hS2 : (Sp S1 S.length a2 b2).length = S1.length := by simp [Sp]
  rw [← hS] at s1
  exact ⟨S.length, m, its, S1, _, S3, g, hl4, ⟨by omega, ⟨a2, b2, get_pre p3 (sp_get hn a2 b2)⟩, hr⟩, s1, e2, e4⟩
end K68
end

section
set_option Elab.async false
set_option linter.all false
set_option maxRecDepth 100000
set_option maxHeartbeats 2000000
namespace K68
open PySem PySem.Spec PyProof.Rows L2 Fx TL
theorem law5_turn (A : Ads) (ne : Ne A) (nb : A.C_BadText ≠ A.C_NoIndex) {ns : List Int} {k : Nat} (hk : k ≤ 3) (S : Sto) (x2 x3 x4 x5 x6 x7 x8 x9 x10 x11 x12 x13 : Option D) :
    ∃ y2 y3 y4 y5 y6 y7 y8 y9 y10 y11 y12 y13 S', B_law_5 A (lwG (some (.fz (ns.map D.int))) (some (.int k)) x2 x3 x4 x5 x6 x7 x8 x9 x10 x11 x12 x13) S = .nx (lwG (some (.fz (ns.map D.int))) (some (.int k)) y2 y3 y4 y5 y6 y7 y8 y9 y10 y11 y12 y13) S' := by
  obtain ⟨n, m, its, S1, S2, S3, g, hl4, li, s1, e2, e4⟩ := law5_a A (ns := ns) hk S x2 x3 x4 x5 x6 x7 x8 x9 x10 x11 x12 x13
  generalize some (D.fz (ns.map D.int)) = x0 at s1 ⊢
  generalize some (D.int k) = x1 at s1 ⊢
  have v2 : mVar 2 (lwG x0 x1 (some (.ref n)) x3 x4 x5 x6 x7 x8 x9 x10 x11 x12 x13) S1 = .ok (.ref n) S1 := rfl
  have s2 := sAsg_ok (i := 3) (call2_ok v2 (nm_ev _ S1) e2)
  have s2 : _ = SR.nx (lwG x0 x1 (some (.ref n)) (some (.tup (itDs its))) x4 x5 x6 x7 x8 x9 x10 x11 x12 x13) S2 := s2
  have v3 : mVar 3 (lwG x0 x1 (some (.ref n)) (some (.tup (itDs its))) x4 x5 x6 x7 x8 x9 x10 x11 x12 x13) S2 = .ok (.tup (itDs its)) S2 := rfl
  have e3 := call1_ok v3 (text_ev A S2 g hl4)
  have e5 := call3_ok v3 (tup0_ev _ _) (mC_ev (.int 0) _ _) e4
  have s3 := par_ok (i := 4) (j := 5) e3 e5
  have s3 : _ = SR.nx (lwG x0 x1 (some (.ref n)) (some (.tup (itDs its))) (some (.str (Sr' (jn its)))) (some (.ref m)) x6 x7 x8 x9 x10 x11 x12 x13) S3 := s3
  -- spans_of
  obtain ⟨S4, e6, p4⟩ := spansOf_ev A ne g hl4 S3
  have v4 : mVar 4 (lwG x0 x1 (some (.ref n)) (some (.tup (itDs its))) (some (.str (Sr' (jn its)))) (some (.ref m)) x6 x7 x8 x9 x10 x11 x12 x13) S3 = .ok (.str (Sr' (jn its))) S3 := rfl
  have e7 := call1_ok v4 e6
  have li4 := li.pre p4
  have v5 : mVar 5 (lwG x0 x1 (some (.ref n)) (some (.tup (itDs its))) (some (.str (Sr' (jn its)))) (some (.ref m)) x6 x7 x8 x9 x10 x11 x12 x13) S4 = .ok (.ref m) S4 := rfl
  have e8 := mT_ok ((mOp_ok e7 v5).trans (dNe_rows li4.2.2))
  have s4 := (sIf_f (a := sRet (mC (.bl false))) (b := sPass) e8).trans (sPass_ev _ _)
  obtain ⟨y6, y7, y8, y9, y10, y11, y12, S5, s5, li5⟩ := law3_loop A ne g hl4 li4 x0 x1 (some (.tup (itDs its))) x6 x7 x8 x9 x10 x11 x12 x13
  have w4 : mVar 4 (lwG x0 x1 (some (.ref n)) (some (.tup (itDs its))) (some (.str (Sr' (jn its)))) (some (.ref m)) y6 y7 y8 y9 y10 y11 y12 x13) S5 = .ok (.str (Sr' (jn its))) S5 := rfl
  obtain ⟨y13, S6, s6, _⟩ := law4_loop A ne g hl4 (xs := oddD (jn its).length) (fun d hd => ⟨(odd_ok _ d hd).1, (odd_ok _ d hd).2.1, (odd_ok _ d hd).2.2 (jn_len g hl4)⟩) S5 x0 x1 (some (.ref n)) (some (.tup (itDs its))) (some (.ref m)) y6 y7 y8 y9 y10 y11 y12 x13 (odd_list (jn_len g hl4) w4)
  obtain ⟨S7, s7⟩ := law_end A ne nb g hl4 (Γ := lwG x0 x1 (some (.ref n)) (some (.tup (itDs its))) (some (.str (Sr' (jn its)))) (some (.ref m)) y6 y7 y8 y9 y10 y11 y12 y13) (S := S6) rfl
  refine ⟨some (.ref n), some (.tup (itDs its)), some (.str (Sr' (jn its))), some (.ref m), y6, y7, y8, y9, y10, y11, y12, y13, S7, ?_⟩
  unfold B_law_5
  exact ((sSeq_nx s1).trans ((sSeq_nx s2).trans ((sSeq_nx s3).trans ((sSeq_nx s4).trans ((sSeq_nx s5).trans ((sSeq_nx s6).trans s7))))))
end K68
end

section
set_option Elab.async false
set_option linter.all false
set_option maxRecDepth 100000
set_option maxHeartbeats 2000000
namespace K68
open PySem PySem.Spec PyProof.Rows L2 Fx TL
theorem law_true {P : Program} {w : World} {K : PySem.W.Frag} {mg : Str → Option Value} {A : Ads} (T : TX P w K mg A) : ∀ ns : List Int, ns.length ≤ 63 → ∃ S, m_law A [.fz (ns.map D.int)] [] = .ok (.bl true) S := by
  intro ns hl
  have ne : Ne A := ⟨T.ne_TextWalk_ItemRow, T.ne_TextWalk_OpenItem, T.ne_ItemRow_OpenItem⟩
  have nb : A.C_BadText ≠ A.C_NoIndex := T.ne_BadText_NoIndex
  let x0 : Option D := some (.fz (ns.map D.int))
  let Γ0 := lwG x0 none none none none none none none none none none none none none
  have el : mBlt fLen (aCons (mVar 0) aNil) Γ0 [] = .ok (.int ns.length) [] := by
    have hv : aCons (mVar 0) aNil Γ0 [] = .ok [.fz (ns.map D.int)] [] := rfl
    simp [mBlt, hv, fLen, dSq, dL]
  obtain ⟨t, et, ht⟩ : ∃ t : Nat, mBlt fMax2 (aCons (mC (.int 1)) (aCons (mBlt fMin2 (aCons (mC (.int 3)) (aCons (mBlt fLen (aCons (mVar 0) aNil)) aNil))) aNil)) Γ0 [] = .ok (.int (t : Nat)) [] ∧ t ≤ 3 := by
    have e2 : mBlt fMin2 (aCons (mC (.int 3)) (aCons (mBlt fLen (aCons (mVar 0) aNil)) aNil)) Γ0 [] = .ok (.int (if (ns.length : Int) < 3 then ns.length else 3)) [] := by
      have ea : aCons (mC (.int 3)) (aCons (mBlt fLen (aCons (mVar 0) aNil)) aNil) Γ0 [] = .ok [.int 3, .int ns.length] [] := by
        simp only [aCons, aNil] at el ⊢
        simp only [mC_ev, Res.bind_ok, el]
      simp only [mBlt, ea, Res.bind_ok, fMin2]
    have e3 : ∀ i : Int, mBlt fMin2 (aCons (mC (.int 3)) (aCons (mBlt fLen (aCons (mVar 0) aNil)) aNil)) Γ0 [] = .ok (.int i) [] → mBlt fMax2 (aCons (mC (.int 1)) (aCons (mBlt fMin2 (aCons (mC (.int 3)) (aCons (mBlt fLen (aCons (mVar 0) aNil)) aNil))) aNil)) Γ0 [] = .ok (.int (if i > 1 then i else 1)) [] := fun i hi => by
      have ea : aCons (mC (.int 1)) (aCons (mBlt fMin2 (aCons (mC (.int 3)) (aCons (mBlt fLen (aCons (mVar 0) aNil)) aNil))) aNil) Γ0 [] = .ok [.int 1, .int i] [] := by
        simp only [aCons, aNil] at hi ⊢
        simp only [mC_ev, Res.bind_ok, hi]
      have eb := congrArg (fun r : Res (List D) => r.bind fMax2) ea
      exact eb
    have e4 := e3 _ e2
    refine ⟨(if (if (ns.length : Int) < 3 then (ns.length : Int) else 3) > 1 then (if (ns.length : Int) < 3 then (ns.length : Int) else 3) else 1).toNat, ?_, ?_⟩
    · rw [e4]
      congr 2
      split <;> split <;> omega
    · split <;> split <;> omega
  have hb : InB (t : Nat) := by unfold InB; omega
  have eq := iRg_nat et hb
  let I : Nat → En → Sto → Prop := fun i Γ S' => ∃ y1 y2 y3 y4 y5 y6 y7 y8 y9 y10 y11 y12 y13, Γ = lwG x0 y1 y2 y3 y4 y5 y6 y7 y8 y9 y10 y11 y12 y13
  obtain ⟨Γ', S', e3, _, _, _, _, _, _, _, _, _, _, _, _, _, rfl⟩ := lpF_all (s := .rng 0 t) (tg := gN 1) (b := B_law_5 A) (I := I) (rgD t)
    (fun i Γ S1 hI => rg_it t i S1)
    (fun i hi Γ S1 hI => by
      have ht2 : i < t := by simpa [rgD] using hi
      obtain ⟨y1, y2, y3, y4, y5, y6, y7, y8, y9, y10, y11, y12, y13, rfl⟩ := hI
      obtain ⟨z2, z3, z4, z5, z6, z7, z8, z9, z10, z11, z12, z13, S2, e2⟩ := law5_turn A ne nb (ns := ns) (k := i) (by omega) S1 y2 y3 y4 y5 y6 y7 y8 y9 y10 y11 y12 y13
      have hx : (rgD t)[i] = .int (i : Nat) := by simp [rgD]
      refine ⟨_, by rw [hx]; rfl, _, _, e2, _, _, _, _, _, _, _, _, _, _, _, _, _, rfl⟩)
    (t + 1) 0 Γ0 [] ⟨_, _, _, _, _, _, _, _, _, _, _, _, _, rfl⟩ (Nat.zero_le _) (by simp [rgD])
  refine ⟨S', runF_rt ((sSeq_nx (sFor_nx eq e3)).trans rfl)⟩
end K68
end
set_option Elab.async false
open PySem PySem.W PyProof.Rows
set_option maxRecDepth 100000 in
set_option maxHeartbeats 0 in
theorem PySem.Challenge.cw_usesstaybound_k68_spans_and_items_of_tex_holds : PySem.Challenge.rw_usesstaybound_k68_spans_and_items_of_tex.Holds := by
  w_on; o_law; k_head; (case hw => w_witness2)
  k_fill
  refine K68.walk (l := PySem.Challenge.rw_usesstaybound_k68_spans_and_items_of_tex) rfl rfl (fun w h Y => PySem.W.kIn_of Y) ?F K68.law_true
  case F =>
    intro w mg fa h KX G hmg
    refine' K68.all_mk KX G hmg ?aC_OpenItem ?aC_ItemRow ?aC_TextWalk ?aC_NoIndex ?aC_BadText ?a__law_pool ?l__law_pool ?c__law_pool ?k__law_pool ?a__law_take ?l__law_take ?c__law_take ?k__law_take ?a__law_one ?l__law_one ?c__law_one ?k__law_one ?a__law_item ?l__law_item ?c__law_item ?k__law_item ?a__law_program ?l__law_program ?c__law_program ?k__law_program ?a__law_word ?l__law_word ?c__law_word ?k__law_word ?a__law_text ?l__law_text ?c__law_text ?k__law_text ?a__law_spans ?l__law_spans ?c__law_spans ?k__law_spans ?a_ItemRow___init__ ?i_ItemRow___init__ ?l_ItemRow___init__ ?c_ItemRow___init__ ?k_ItemRow___init__ ?a_TextWalk_new_row ?i_TextWalk_new_row ?l_TextWalk_new_row ?c_TextWalk_new_row ?k_TextWalk_new_row ?a_TextWalk_next_in ?i_TextWalk_next_in ?l_TextWalk_next_in ?c_TextWalk_next_in ?k_TextWalk_next_in ?a_TextWalk_go_over_number ?i_TextWalk_go_over_number ?l_TextWalk_go_over_number ?c_TextWalk_go_over_number ?k_TextWalk_go_over_number ?a_TextWalk_go_over_name ?i_TextWalk_go_over_name ?l_TextWalk_go_over_name ?c_TextWalk_go_over_name ?k_TextWalk_go_over_name ?a_TextWalk_small_item ?i_TextWalk_small_item ?l_TextWalk_small_item ?c_TextWalk_small_item ?k_TextWalk_small_item ?a_OpenItem___init__ ?i_OpenItem___init__ ?l_OpenItem___init__ ?c_OpenItem___init__ ?k_OpenItem___init__ ?a_TextWalk___init__ ?i_TextWalk___init__ ?l_TextWalk___init__ ?c_TextWalk___init__ ?k_TextWalk___init__ ?a_BadText___init__ ?i_BadText___init__ ?l_BadText___init__ ?c_BadText___init__ ?k_BadText___init__ ?a_TextWalk_refuse_here ?i_TextWalk_refuse_here ?l_TextWalk_refuse_here ?c_TextWalk_refuse_here ?k_TextWalk_refuse_here ?a_TextWalk_begin_first ?i_TextWalk_begin_first ?l_TextWalk_begin_first ?c_TextWalk_begin_first ?k_TextWalk_begin_first ?a_TextWalk_begin_item ?i_TextWalk_begin_item ?l_TextWalk_begin_item ?c_TextWalk_begin_item ?k_TextWalk_begin_item ?a_TextWalk_close_item ?i_TextWalk_close_item ?l_TextWalk_close_item ?c_TextWalk_close_item ?k_TextWalk_close_item ?a_TextWalk_go_on ?i_TextWalk_go_on ?l_TextWalk_go_on ?c_TextWalk_go_on ?k_TextWalk_go_on ?a_TextWalk_walked_rows ?i_TextWalk_walked_rows ?l_TextWalk_walked_rows ?c_TextWalk_walked_rows ?k_TextWalk_walked_rows ?a_rows_of_text ?l_rows_of_text ?c_rows_of_text ?k_rows_of_text ?a_spans_of ?l_spans_of ?c_spans_of ?k_spans_of ?a_is_whole ?l_is_whole ?c_is_whole ?k_is_whole ?a_is_number ?l_is_number ?c_is_number ?k_is_number ?a_NoIndex___init__ ?i_NoIndex___init__ ?l_NoIndex___init__ ?c_NoIndex___init__ ?k_NoIndex___init__ ?a_item_at ?l_item_at ?c_item_at ?k_item_at ?a__law_told ?l__law_told ?c__law_told ?k__law_told ?a_law ?l_law ?c_law ?k_law ?pg_OpenItem ?hd_OpenItem ?po_OpenItem ?sa_OpenItem ?mk_OpenItem ?kc_OpenItem ?n_OpenItem_own_many ?n_OpenItem_own_path ?n_OpenItem_own_row ?pg_ItemRow ?hd_ItemRow ?po_ItemRow ?sa_ItemRow ?mk_ItemRow ?kc_ItemRow ?n_ItemRow_own_behind ?n_ItemRow_own_first ?n_ItemRow_own_kind ?n_ItemRow_own_path ?n_ItemRow_own_value ?pg_TextWalk ?hd_TextWalk ?po_TextWalk ?sa_TextWalk ?mk_TextWalk ?kc_TextWalk ?n_TextWalk_own_at ?n_TextWalk_own_pile ?n_TextWalk_own_rows ?n_TextWalk_own_text ?ag_LEADING_FIGURES ?ag_MOST_LETTERS ?ag_SIGNED_KINDS ?lg_SIGNED_KINDS ?hk_SIGNED_KINDS ?v_SIGNED_KINDS_0 ?v_SIGNED_KINDS_1 ?ag_TEXT_FIGURES ?ag_TEXT_LETTERS ?ab_bool ?ab_int ?ab_isinstance ?ab_len ?ab_max ?ab_min ?ab_range ?ab_str ?ab_tuple ?asup ?aany ?htop ?xl_NoIndex ?xr_NoIndex ?xs_NoIndex ?xb_NoIndex ?xt_NoIndex ?xk_NoIndex ?xv_NoIndex ?xu_NoIndex ?xm_NoIndex ?xn_NoIndex ?xy_NoIndex ?xa_NoIndex ?xg_NoIndex ?xh_NoIndex ?xc_NoIndex ?xf_NoIndex ?xi_NoIndex ?xe_NoIndex ?xD_NoIndex ?xz_NoIndex_NoIndex ?xz_NoIndex_BadText ?xl_BadText ?xr_BadText ?xs_BadText ?xb_BadText ?xt_BadText ?xk_BadText ?xv_BadText ?xu_BadText ?xm_BadText ?xn_BadText ?xy_BadText ?xa_BadText ?xg_BadText ?xh_BadText ?xc_BadText ?xf_BadText ?xi_BadText ?xe_BadText ?xD_BadText ?xz_BadText_NoIndex ?xz_BadText_BadText ?ne_ItemRow_OpenItem ?ne_TextWalk_OpenItem ?ne_TextWalk_ItemRow ?ne_NoIndex_OpenItem ?ne_NoIndex_ItemRow ?ne_NoIndex_TextWalk ?ne_BadText_OpenItem ?ne_BadText_ItemRow ?ne_BadText_TextWalk ?ne_BadText_NoIndex
    (case aC_OpenItem => k_is)
    (case aC_ItemRow => k_is)
    (case aC_TextWalk => k_is)
    (case aC_NoIndex => k_is)
    (case aC_BadText => k_is)
    (case a__law_pool => k_is)
    (case l__law_pool => k_is)
    (case c__law_pool => k_is)
    (case k__law_pool => k_is)
    (case a__law_take => k_is)
    (case l__law_take => k_is)
    (case c__law_take => k_is)
    (case k__law_take => k_is)
    (case a__law_one => k_is)
    (case l__law_one => k_is)
    (case c__law_one => k_is)
    (case k__law_one => k_is)
    (case a__law_item => k_is)
    (case l__law_item => k_is)
    (case c__law_item => k_is)
    (case k__law_item => k_is)
    (case a__law_program => k_is)
    (case l__law_program => k_is)
    (case c__law_program => k_is)
    (case k__law_program => k_is)
    (case a__law_word => k_is)
    (case l__law_word => k_is)
    (case c__law_word => k_is)
    (case k__law_word => k_is)
    (case a__law_text => k_is)
    (case l__law_text => k_is)
    (case c__law_text => k_is)
    (case k__law_text => k_is)
    (case a__law_spans => k_is)
    (case l__law_spans => k_is)
    (case c__law_spans => k_is)
    (case k__law_spans => k_is)
    (case a_ItemRow___init__ => k_is)
    (case i_ItemRow___init__ => k_is)
    (case l_ItemRow___init__ => k_is)
    (case c_ItemRow___init__ => k_is)
    (case k_ItemRow___init__ => k_is)
    (case a_TextWalk_new_row => k_is)
    (case i_TextWalk_new_row => k_is)
    (case l_TextWalk_new_row => k_is)
    (case c_TextWalk_new_row => k_is)
    (case k_TextWalk_new_row => k_is)
    (case a_TextWalk_next_in => k_is)
    (case i_TextWalk_next_in => k_is)
    (case l_TextWalk_next_in => k_is)
    (case c_TextWalk_next_in => k_is)
    (case k_TextWalk_next_in => k_is)
    (case a_TextWalk_go_over_number => k_is)
    (case i_TextWalk_go_over_number => k_is)
    (case l_TextWalk_go_over_number => k_is)
    (case c_TextWalk_go_over_number => k_is)
    (case k_TextWalk_go_over_number => k_is)
    (case a_TextWalk_go_over_name => k_is)
    (case i_TextWalk_go_over_name => k_is)
    (case l_TextWalk_go_over_name => k_is)
    (case c_TextWalk_go_over_name => k_is)
    (case k_TextWalk_go_over_name => k_is)
    (case a_TextWalk_small_item => k_is)
    (case i_TextWalk_small_item => k_is)
    (case l_TextWalk_small_item => k_is)
    (case c_TextWalk_small_item => k_is)
    (case k_TextWalk_small_item => k_is)
    (case a_OpenItem___init__ => k_is)
    (case i_OpenItem___init__ => k_is)
    (case l_OpenItem___init__ => k_is)
    (case c_OpenItem___init__ => k_is)
    (case k_OpenItem___init__ => k_is)
    (case a_TextWalk___init__ => k_is)
    (case i_TextWalk___init__ => k_is)
    (case l_TextWalk___init__ => k_is)
    (case c_TextWalk___init__ => k_is)
    (case k_TextWalk___init__ => k_is)
    (case a_BadText___init__ => k_is)
    (case i_BadText___init__ => k_is)
    (case l_BadText___init__ => k_is)
    (case c_BadText___init__ => k_is)
    (case k_BadText___init__ => k_is)
    (case a_TextWalk_refuse_here => k_is)
    (case i_TextWalk_refuse_here => k_is)
    (case l_TextWalk_refuse_here => k_is)
    (case c_TextWalk_refuse_here => k_is)
    (case k_TextWalk_refuse_here => k_is)
    (case a_TextWalk_begin_first => k_is)
    (case i_TextWalk_begin_first => k_is)
    (case l_TextWalk_begin_first => k_is)
    (case c_TextWalk_begin_first => k_is)
    (case k_TextWalk_begin_first => k_is)
    (case a_TextWalk_begin_item => k_is)
    (case i_TextWalk_begin_item => k_is)
    (case l_TextWalk_begin_item => k_is)
    (case c_TextWalk_begin_item => k_is)
    (case k_TextWalk_begin_item => k_is)
    (case a_TextWalk_close_item => k_is)
    (case i_TextWalk_close_item => k_is)
    (case l_TextWalk_close_item => k_is)
    (case c_TextWalk_close_item => k_is)
    (case k_TextWalk_close_item => k_is)
    (case a_TextWalk_go_on => k_is)
    (case i_TextWalk_go_on => k_is)
    (case l_TextWalk_go_on => k_is)
    (case c_TextWalk_go_on => k_is)
    (case k_TextWalk_go_on => k_is)
    (case a_TextWalk_walked_rows => k_is)
    (case i_TextWalk_walked_rows => k_is)
    (case l_TextWalk_walked_rows => k_is)
    (case c_TextWalk_walked_rows => k_is)
    (case k_TextWalk_walked_rows => k_is)
    (case a_rows_of_text => k_is)
    (case l_rows_of_text => k_is)
    (case c_rows_of_text => k_is)
    (case k_rows_of_text => k_is)
    (case a_spans_of => k_is)
    (case l_spans_of => k_is)
    (case c_spans_of => k_is)
    (case k_spans_of => k_is)
    (case a_is_whole => k_is)
    (case l_is_whole => k_is)
    (case c_is_whole => k_is)
    (case k_is_whole => k_is)
    (case a_is_number => k_is)
    (case l_is_number => k_is)
    (case c_is_number => k_is)
    (case k_is_number => k_is)
    (case a_NoIndex___init__ => k_is)
    (case i_NoIndex___init__ => k_is)
    (case l_NoIndex___init__ => k_is)
    (case c_NoIndex___init__ => k_is)
    (case k_NoIndex___init__ => k_is)
    (case a_item_at => k_is)
    (case l_item_at => k_is)
    (case c_item_at => k_is)
    (case k_item_at => k_is)
    (case a__law_told => k_is)
    (case l__law_told => k_is)
    (case c__law_told => k_is)
    (case k__law_told => k_is)
    (case a_law => k_is)
    (case l_law => k_is)
    (case c_law => k_is)
    (case k_law => k_is)
    (case pg_OpenItem => k_is)
    (case hd_OpenItem => k_is)
    (case po_OpenItem => k_is)
    (case sa_OpenItem => k_is)
    (case mk_OpenItem => k_is)
    (case kc_OpenItem => k_is)
    (case n_OpenItem_own_many => k_is)
    (case n_OpenItem_own_path => k_is)
    (case n_OpenItem_own_row => k_is)
    (case pg_ItemRow => k_is)
    (case hd_ItemRow => k_is)
    (case po_ItemRow => k_is)
    (case sa_ItemRow => k_is)
    (case mk_ItemRow => k_is)
    (case kc_ItemRow => k_is)
    (case n_ItemRow_own_behind => k_is)
    (case n_ItemRow_own_first => k_is)
    (case n_ItemRow_own_kind => k_is)
    (case n_ItemRow_own_path => k_is)
    (case n_ItemRow_own_value => k_is)
    (case pg_TextWalk => k_is)
    (case hd_TextWalk => k_is)
    (case po_TextWalk => k_is)
    (case sa_TextWalk => k_is)
    (case mk_TextWalk => k_is)
    (case kc_TextWalk => k_is)
    (case n_TextWalk_own_at => k_is)
    (case n_TextWalk_own_pile => k_is)
    (case n_TextWalk_own_rows => k_is)
    (case n_TextWalk_own_text => k_is)
    (case ag_LEADING_FIGURES => k_is)
    (case ag_MOST_LETTERS => k_is)
    (case ag_SIGNED_KINDS => k_is)
    (case lg_SIGNED_KINDS => k_is)
    (case hk_SIGNED_KINDS => exact ⟨⟨_, _, rfl, rfl⟩, ⟨_, _, rfl, rfl⟩, True.intro⟩)
    (case v_SIGNED_KINDS_0 => k_is)
    (case v_SIGNED_KINDS_1 => k_is)
    (case ag_TEXT_FIGURES => k_is)
    (case ag_TEXT_LETTERS => k_is)
    (case ab_bool => k_is)
    (case ab_int => k_is)
    (case ab_isinstance => k_is)
    (case ab_len => k_is)
    (case ab_max => k_is)
    (case ab_min => k_is)
    (case ab_range => k_is)
    (case ab_str => k_is)
    (case ab_tuple => k_is)
    (case asup => k_is)
    (case aany => k_is)
    (case htop => decide +kernel)
    (case xl_NoIndex => k_is)
    (case xr_NoIndex => decide +kernel)
    (case xs_NoIndex => k_is)
    (case xb_NoIndex => k_is)
    (case xt_NoIndex => k_is)
    (case xk_NoIndex => k_is)
    (case xv_NoIndex => k_is)
    (case xu_NoIndex => ks_is)
    (case xm_NoIndex => k_is)
    (case xn_NoIndex => k_is)
    (case xy_NoIndex => k_is)
    (case xa_NoIndex => k_is)
    (case xg_NoIndex => k_is)
    (case xh_NoIndex => k_is)
    (case xc_NoIndex => k_is)
    (case xf_NoIndex => rfl)
    (case xi_NoIndex => decide +kernel)
    (case xe_NoIndex => k_is)
    (case xD_NoIndex => k_is)
    (case xz_NoIndex_NoIndex => k_is)
    (case xz_NoIndex_BadText => k_is)
    (case xl_BadText => k_is)
    (case xr_BadText => decide +kernel)
    (case xs_BadText => k_is)
    (case xb_BadText => k_is)
    (case xt_BadText => k_is)
    (case xk_BadText => k_is)
    (case xv_BadText => k_is)
    (case xu_BadText => ks_is)
    (case xm_BadText => k_is)
    (case xn_BadText => k_is)
    (case xy_BadText => k_is)
    (case xa_BadText => k_is)
    (case xg_BadText => k_is)
    (case xh_BadText => k_is)
    (case xc_BadText => k_is)
    (case xf_BadText => rfl)
    (case xi_BadText => decide +kernel)
    (case xe_BadText => k_is)
    (case xD_BadText => k_is)
    (case xz_BadText_NoIndex => k_is)
    (case xz_BadText_BadText => k_is)
    (case ne_ItemRow_OpenItem => decide)
    (case ne_TextWalk_OpenItem => decide)
    (case ne_TextWalk_ItemRow => decide)
    (case ne_NoIndex_OpenItem => decide)
    (case ne_NoIndex_ItemRow => decide)
    (case ne_NoIndex_TextWalk => decide)
    (case ne_BadText_OpenItem => decide)
    (case ne_BadText_ItemRow => decide)
    (case ne_BadText_TextWalk => decide)
    (case ne_BadText_NoIndex => decide)
