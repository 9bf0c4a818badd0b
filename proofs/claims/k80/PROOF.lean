import PyProof.Rows.All
import HandS.ForMost
import HandS.ForExc
import HandS.ForSpec
import HandS.Walk
import HandS.Codes
import HandS.TupAny
import HandS.Zip
import HandS.Conv
import HandS.IsInst
import HandS.Deep
import HandS.Flow
import HandS.Strs
import HandS.SetKeys
import HandS.Wide
import HandS.TupMul
import HandS.DictTup
import HandS.TryMany
import HandS.Style
import HandS.RevTup
import PyProof.StrOps2
import KE.DataMinMax
import KE.DataCmp
import PyProof.SumAny
import HandS.RaiseMore
import KE.GoesEnum
import HandS.HeadHook2
import HandS.WordsExc
import HandS.Defaults
import KE.KStateDown
import HandS.Head0
import HandS.Head1
import HandS.Head2
import HandS.HeadEnd
import HandS.HeadHook1
import PySem.Challenge.RW_clothholds_k80_whole_tablets_and_what_th
set_option Elab.async false
set_option linter.all false
set_option maxRecDepth 100000
set_option maxHeartbeats 4000000
/-! EV: a layer of values without addresses over the hand layer: what an expression, a statement, a def makes, as a plain function of plain data -/
namespace EV
open PySem PySem.Spec L2 SX
open PyProof.Rows hiding St

abbrev Kd := Sum Int (List Nat)
/-- plain data -/
inductive D where
  | non | bl (b : Bool) | int (i : Int) | str (s : List Nat)
  | tup (xs : List D) | lst (xs : List D)
  | dk (kvs : List (Kd × D)) | dt (kvs : List (List Kd × D))
  | fn (n : Nat)
  | scr (ns : List Int)
  deriving Inhabited

/-- what a piece of code comes to -/
inductive Res (α : Type) where
  | ok (a : α) | err (c : Nat) (p : D) | stuck
def Res.bind {α β : Type} : Res α → (α → Res β) → Res β
  | .ok a, f => f a
  | .err c p, _ => .err c p
  | .stuck, _ => .stuck
instance : Monad Res where
  pure := .ok
  bind := Res.bind
/-- an equation that simp is to write out -/
theorem nr {α : Sort _} {a b : α} (h : a = b) : a = b := h
@[simp] theorem ok_bind {α β : Type} (a : α) (f : α → Res β) : (Res.ok a >>= f) = f a := nr rfl
@[simp] theorem err_bind {α β : Type} (c : Nat) (p : D) (f : α → Res β) : ((Res.err c p : Res α) >>= f) = .err c p := nr rfl
@[simp] theorem stuck_bind {α β : Type} (f : α → Res β) : ((Res.stuck : Res α) >>= f) = .stuck := nr rfl
@[simp] theorem pure_ok {α : Type} (a : α) : (pure a : Res α) = .ok a := nr rfl
def Wp {α : Type} (r : Res α) (X : Nat → D → Prop) (Q : α → Prop) : Prop :=
  match r with
  | .ok a => Q a
  | .err c p => X c p
  | .stuck => False
theorem Wp.bind {α β : Type} {r : Res α} {f : α → Res β} {X : Nat → D → Prop} {Q : β → Prop} (h : Wp (r >>= f) X Q) : Wp r X (fun a => Wp (f a) X Q) := by
  cases r <;> exact h
theorem Wp.mono {α : Type} {r : Res α} {X X' : Nat → D → Prop} {Q Q' : α → Prop} (h : Wp r X Q) (hx : ∀ c p, X c p → X' c p) (hq : ∀ a, r = .ok a → Q a → Q' a) : Wp r X' Q' := by
  cases r with
  | ok a => exact hq a rfl h
  | err c p => exact hx c p h
  | stuck => exact h
def ofOpt {α : Type} : Option α → Res α
  | some a => .ok a
  | none => .stuck

/-! ### slots -/
abbrev Env := List (Option D)
def gt : Env → Nat → Option D
  | [], _ => none
  | x :: _, 0 => x
  | _ :: r, i + 1 => gt r i
def st : Env → Nat → Option D → Env
  | [], _, _ => []
  | _ :: r, 0, v => v :: r
  | x :: r, i + 1, v => x :: st r i v
theorem st_length : ∀ (ρ : Env) (i : Nat) (v : Option D), (st ρ i v).length = ρ.length
  | [], _, _ => rfl
  | _ :: _, 0, _ => rfl
  | _ :: r, i + 1, v => congrArg (· + 1) (st_length r i v)
theorem gt_st_same : ∀ (ρ : Env) (i : Nat) (v : Option D), i < ρ.length → gt (st ρ i v) i = v
  | [], _, _, h => absurd h (Nat.not_lt_zero _)
  | _ :: _, 0, _, _ => rfl
  | _ :: r, i + 1, v, h => gt_st_same r i v (Nat.lt_of_succ_lt_succ h)
theorem gt_st_none : ∀ (ρ : Env) (i : Nat), gt (st ρ i none) i = none
  | [], _ => rfl
  | _ :: _, 0 => rfl
  | _ :: r, i + 1 => gt_st_none r i
theorem gt_st_ne : ∀ (ρ : Env) (i j : Nat) (v : Option D), j ≠ i → gt (st ρ i v) j = gt ρ j
  | [], _, _, _, _ => rfl
  | _ :: _, 0, 0, _, h => absurd rfl h
  | _ :: _, 0, j + 1, _, _ => rfl
  | _ :: _, i + 1, 0, _, _ => rfl
  | _ :: r, i + 1, j + 1, v, h => gt_st_ne r i j v fun e => h (congrArg (· + 1) e)
theorem gt_lt : ∀ {ρ : Env} {i : Nat} {d : D}, gt ρ i = some d → i < ρ.length
  | [], _, _, h => nomatch h
  | _ :: _, 0, _, _ => Nat.succ_pos _
  | _ :: r, i + 1, _, h => Nat.succ_lt_succ (gt_lt (ρ := r) h)

/-! ### how data lies in the abstract heap; O: the addresses that a name owns -/
def kdK : Kd → Key
  | .inl i => .inl i
  | .inr s => .inr (S s)
theorem kdK_inj {k l : Kd} (h : kdK k = kdK l) : k = l := by
  cases k <;> cases l <;> simp [kdK] at h
  · rw [h]
  · rw [h]
def ShL (K : PySem.W.Frag) (O : Addr → Prop) (H : Hp) (a : Addr) (vs : List V) : Prop :=
  (¬ O a ∧ Rd H a (.lst vs)) ∨ ∃ (o : Obj) (its : Array Value) (n : Nat), K.lookup a = some o ∧ o.cls = .type "list" ∧ o.dict = none ∧ o.data = .seq its n ∧ its.size ≤ sizeLine ∧ Vals vs its.toList
def ShT (K : PySem.W.Frag) (O : Addr → Prop) (H : Hp) (a : Addr) (vs : List V) : Prop :=
  (¬ O a ∧ Rd H a (.tup vs)) ∨ ∃ (o : Obj) (its : Array Value) (n : Nat), K.lookup a = some o ∧ o.cls = .type "tuple" ∧ o.data = .seq its n ∧ its.size ≤ sizeLine ∧ Vals vs its.toList
theorem ShL.sq {K : PySem.W.Frag} {O : Addr → Prop} {H : Hp} {a : Addr} {vs : List V} (h : ShL K O H a vs) : SqL K H a vs := h.imp And.right id
theorem ShT.sq {K : PySem.W.Frag} {O : Addr → Prop} {H : Hp} {a : Addr} {vs : List V} (h : ShT K O H a vs) : SqT K H a vs := h.imp And.right id

/-- code points -/
abbrev okS (s : List Nat) : Prop := ∀ c, c ∈ s → c < 1114112
mutual
inductive Rep (K : PySem.W.Frag) (T : Nat → Option Addr) (O : Addr → Prop) (H : Hp) : V → D → Prop
  | non : Rep K T O H .non .non
  | bl (b : Bool) : Rep K T O H (.bl b) (.bl b)
  | int (i : Int) : Rep K T O H (.int i) (.int i)
  | str (s : List Nat) (h : okS s) : Rep K T O H (.str (S s)) (.str s)
  | tup {a : Addr} {vs : List V} {ds : List D} : ShT K O H a vs → Reps K T O H vs ds → Rep K T O H (.ref a) (.tup ds)
  | lst {a : Addr} {vs : List V} {ds : List D} : ¬ O a → Rd H a (.lst vs) → Reps K T O H vs ds → Rep K T O H (.ref a) (.lst ds)
  | dk {a : Addr} {kvs : List (Key × V)} {kds : List (Kd × D)} : ¬ O a → Rd H a (.dK kvs) → RepK K T O H kvs kds → Rep K T O H (.ref a) (.dk kds)
  | dt {a : Addr} {kvs : List (List Key × V)} {kds : List (List Kd × D)} : ¬ O a → Rd H a (.dT kvs) → RepT K T O H kvs kds → Rep K T O H (.ref a) (.dt kds)
  | fn {a : Addr} {n : Nat} : T n = some a → Rep K T O H (.ref a) (.fn n)
  | scr {a : Addr} {ns : List Int} : ShL K O H a (ns.map V.int) → Rep K T O H (.ref a) (.scr ns)
inductive Reps (K : PySem.W.Frag) (T : Nat → Option Addr) (O : Addr → Prop) (H : Hp) : List V → List D → Prop
  | nil : Reps K T O H [] []
  | cons {v : V} {d : D} {vs : List V} {ds : List D} : Rep K T O H v d → Reps K T O H vs ds → Reps K T O H (v :: vs) (d :: ds)
inductive RepK (K : PySem.W.Frag) (T : Nat → Option Addr) (O : Addr → Prop) (H : Hp) : List (Key × V) → List (Kd × D) → Prop
  | nil : RepK K T O H [] []
  | cons {k : Kd} {v : V} {d : D} {r : List (Key × V)} {rs : List (Kd × D)} : Rep K T O H v d → RepK K T O H r rs → RepK K T O H ((kdK k, v) :: r) ((k, d) :: rs)
inductive RepT (K : PySem.W.Frag) (T : Nat → Option Addr) (O : Addr → Prop) (H : Hp) : List (List Key × V) → List (List Kd × D) → Prop
  | nil : RepT K T O H [] []
  | cons {k : List Kd} {v : V} {d : D} {r : List (List Key × V)} {rs : List (List Kd × D)} : Rep K T O H v d → RepT K T O H r rs → RepT K T O H ((k.map kdK, v) :: r) ((k, d) :: rs)
end

/-- from one moment to a later one -/
structure RA (O : Addr → Prop) (H : Hp) (O' : Addr → Prop) (H' : Hp) : Prop where
  st : ∀ a u, ¬ O a → Rd H a u → Rd H' a u
  on : ∀ a, O' a → O a ∨ H a = none
  dm : ∀ a, H a ≠ none → H' a ≠ none
theorem rd_some {H : Hp} {a : Addr} {u : HO} (h : Rd H a u) : H a ≠ none := by
  rcases h with h | ⟨o, h⟩ <;> rw [h] <;> exact fun e => nomatch e
theorem RA.refl (O : Addr → Prop) (H : Hp) : RA O H O H := ⟨fun _ _ _ h => h, fun _ h => .inl h, fun _ h => h⟩
theorem RA.trans {O O1 O2 : Addr → Prop} {H H1 H2 : Hp} (x : RA O H O1 H1) (y : RA O1 H1 O2 H2) : RA O H O2 H2 where
  st := fun a u no h => y.st a u (fun z => (x.on a z).elim no (rd_some h)) (x.st a u no h)
  on := fun a h => by
    rcases y.on a h with h | h
    · exact x.on a h
    · by_cases z : H a = none
      · exact .inr z
      · exact absurd h (x.dm a z)
  dm := fun a h => y.dm a (x.dm a h)
/-- nothing that is known changes -/
def Ex (H H' : Hp) : Prop := ∀ a o, H a = some o → H' a = some o
theorem Ex.refl (H : Hp) : Ex H H := fun _ _ h => h
theorem Ex.trans {H H1 H2 : Hp} (a : Ex H H1) (b : Ex H1 H2) : Ex H H2 := fun x o h => b x o (a x o h)
theorem Ex.new {H : Hp} {p : Addr} {o : HO} (h : H p = none) : Ex H (upd H p o) := fun a u e => by
  rw [upd_ne (ne_of_none e h)]
  exact e
theorem Ex.rd {H H' : Hp} {a : Addr} {u : HO} (e : Ex H H') (h : Rd H a u) : Rd H' a u := by
  rcases h with h | ⟨o, h⟩
  · exact .inl (e a _ h)
  · exact .inr ⟨o, e a _ h⟩
theorem Ex.dm {H H' : Hp} (e : Ex H H') (a : Addr) (h : H a ≠ none) : H' a ≠ none := by
  cases q : H a with
  | none => exact absurd q h
  | some o => rw [e a o q]; exact fun z => nomatch z
theorem Ex.ra {O : Addr → Prop} {H H' : Hp} (e : Ex H H') : RA O H O H' := ⟨fun _ _ _ h => e.rd h, fun _ h => .inl h, e.dm⟩
theorem ShL.adv {K : PySem.W.Frag} {O O' : Addr → Prop} {H H' : Hp} {a : Addr} {vs : List V} (x : RA O H O' H') (h : ShL K O H a vs) : ShL K O' H' a vs := by
  rcases h with ⟨n, h⟩ | h
  · exact .inl ⟨fun z => (x.on a z).elim n (rd_some h), x.st a _ n h⟩
  · exact .inr h
theorem ShT.adv {K : PySem.W.Frag} {O O' : Addr → Prop} {H H' : Hp} {a : Addr} {vs : List V} (x : RA O H O' H') (h : ShT K O H a vs) : ShT K O' H' a vs := by
  rcases h with ⟨n, h⟩ | h
  · exact .inl ⟨fun z => (x.on a z).elim n (rd_some h), x.st a _ n h⟩
  · exact .inr h
section
variable {K : PySem.W.Frag} {T : Nat → Option Addr} {O O' : Addr → Prop} {H H' : Hp}
mutual
theorem Rep.adv (x : RA O H O' H') : ∀ (d : D) (v : V), Rep K T O H v d → Rep K T O' H' v d
  | .non, _, h => by cases h; exact .non
  | .bl b, _, h => by cases h; exact .bl b
  | .int i, _, h => by cases h; exact .int i
  | .str s, _, h => by
    cases h with
    | str _ hs => exact .str s hs
  | .tup ds, _, h => by
    cases h with
    | tup h1 h2 => exact .tup (h1.adv x) (Reps.adv x ds _ h2)
  | .lst ds, _, h => by
    cases h with
    | lst h0 h1 h2 => exact .lst (fun z => (x.on _ z).elim h0 (rd_some h1)) (x.st _ _ h0 h1) (Reps.adv x ds _ h2)
  | .dk ds, _, h => by
    cases h with
    | dk h0 h1 h2 => exact .dk (fun z => (x.on _ z).elim h0 (rd_some h1)) (x.st _ _ h0 h1) (RepK.adv x ds _ h2)
  | .dt ds, _, h => by
    cases h with
    | dt h0 h1 h2 => exact .dt (fun z => (x.on _ z).elim h0 (rd_some h1)) (x.st _ _ h0 h1) (RepT.adv x ds _ h2)
  | .fn n, _, h => by
    cases h with
    | fn h => exact .fn h
  | .scr ns, _, h => by
    cases h with
    | scr h => exact .scr (h.adv x)
theorem Reps.adv (x : RA O H O' H') : ∀ (ds : List D) (vs : List V), Reps K T O H vs ds → Reps K T O' H' vs ds
  | [], _, h => by cases h; exact .nil
  | d :: ds, _, h => by
    cases h with
    | cons h1 h2 => exact .cons (Rep.adv x d _ h1) (Reps.adv x ds _ h2)
theorem RepK.adv (x : RA O H O' H') : ∀ (ds : List (Kd × D)) (vs : List (Key × V)), RepK K T O H vs ds → RepK K T O' H' vs ds
  | [], _, h => by cases h; exact .nil
  | (k, d) :: ds, _, h => by
    cases h with
    | cons h1 h2 => exact .cons (Rep.adv x d _ h1) (RepK.adv x ds _ h2)
theorem RepT.adv (x : RA O H O' H') : ∀ (ds : List (List Kd × D)) (vs : List (List Key × V)), RepT K T O H vs ds → RepT K T O' H' vs ds
  | [], _, h => by cases h; exact .nil
  | (k, d) :: ds, _, h => by
    cases h with
    | cons h1 h2 => exact .cons (Rep.adv x d _ h1) (RepT.adv x ds _ h2)
end
end
/-- what may be changed, what is owned at all -/
structure MO where
  M : Addr → Prop
  O : Addr → Prop
  sub : ∀ a, M a → O a
/-- from one moment to a later one: what may not be changed stands as it was -/
structure Adv (m : MO) (H : Hp) (m' : MO) (H' : Hp) : Prop where
  st : ∀ a u, ¬ m.M a → H a = some u → H' a = some u
  mn : ∀ a, m'.M a → m.M a ∨ H a = none
  on : ∀ a, m'.O a → m.O a ∨ H a = none
  dm : ∀ a, H a ≠ none → H' a ≠ none
theorem some_ne {α : Type} {o : Option α} {x : α} (h : o = some x) : o ≠ none := by rw [h]; exact fun z => nomatch z
theorem Adv.refl (m : MO) (H : Hp) : Adv m H m H := ⟨fun _ _ _ h => h, fun _ h => .inl h, fun _ h => .inl h, fun _ h => h⟩
theorem Adv.trans {m m1 m2 : MO} {H H1 H2 : Hp} (x : Adv m H m1 H1) (y : Adv m1 H1 m2 H2) : Adv m H m2 H2 where
  st := fun a u no h => y.st a u (fun z => (x.mn a z).elim no (some_ne h)) (x.st a u no h)
  mn := fun a h => by
    rcases y.mn a h with h | h
    · exact x.mn a h
    · by_cases z : H a = none
      · exact .inr z
      · exact absurd h (x.dm a z)
  on := fun a h => by
    rcases y.on a h with h | h
    · exact x.on a h
    · by_cases z : H a = none
      · exact .inr z
      · exact absurd h (x.dm a z)
  dm := fun a h => y.dm a (x.dm a h)
theorem Adv.rd {m m' : MO} {H H' : Hp} (x : Adv m H m' H') {a : Addr} {u : HO} (n : ¬ m.M a) (h : Rd H a u) : Rd H' a u := by
  rcases h with h | ⟨o, h⟩
  · exact .inl (x.st a _ n h)
  · exact .inr ⟨o, x.st a _ n h⟩
theorem Adv.ra {m m' : MO} {H H' : Hp} (x : Adv m H m' H') : RA m.O H m'.O H' := ⟨fun a _ n h => x.rd (fun z => n (m.sub a z)) h, x.on, x.dm⟩
theorem Ex.adv {m : MO} {H H' : Hp} (e : Ex H H') : Adv m H m H' := ⟨fun a u _ h => e a u h, fun _ h => .inl h, fun _ h => .inl h, e.dm⟩
end EV

namespace EV
open PySem PySem.Spec L2 SX
open PyProof.Rows hiding St

/-- what a name of its own owns: a list or a dict that nothing else holds -/
def OwnAt (K : PySem.W.Frag) (T : Nat → Option Addr) (O : Addr → Prop) (H : Hp) (a : Addr) : D → Prop
  | .lst ds => ∃ vs, H a = some (.lst vs) ∧ Reps K T O H vs ds
  | .dk ds => ∃ kvs, H a = some (.dK kvs) ∧ RepK K T O H kvs ds
  | .dt ds => ∃ kvs, H a = some (.dT kvs) ∧ RepT K T O H kvs ds
  | _ => False
/-- fixed for a piece of code: the slots that own what they hold; the slots that are never stored; defs as values, classes of errors, their fields -/
structure ES where
  ow : List Nat
  fx : List Nat
  T : Nat → Option Addr
  cls : Nat → Value
  fld : Nat → Option Str
/-- fixed while it runs: the heap at the entry, what others own, the fixed slots' values, what is lent, what is locked -/
structure EC where
  H0 : Hp
  O0 : Addr → Prop
  fv : Nat → V
  bo : Addr → Prop
  lk : List (Addr × Obj × HO)
def EC.M (S : ES) (σ : St) (ρ : Env) : Addr → Prop := fun a => ∃ i, i ∈ S.ow ∧ gt ρ i ≠ none ∧ σ[i]? = some (some (.ref a))
def EC.O (C : EC) (S : ES) (σ : St) (ρ : Env) : Addr → Prop := fun a => C.O0 a ∨ EC.M S σ ρ a
abbrev EC.mo (C : EC) (S : ES) (σ : St) (ρ : Env) : MO := ⟨EC.M S σ ρ, C.O S σ ρ, fun _ h => .inr h⟩
abbrev ES.fix (S : ES) (i : Nat) : ES := { S with fx := i :: S.fx }
/-- new objects that nothing holds yet -/
abbrev EC.pl (C : EC) (ps : List Addr) : EC := { C with O0 := fun a => C.O0 a ∨ a ∈ ps }
theorem EC.pl_pl (C : EC) (ps qs : List Addr) : (C.pl ps).pl qs = C.pl (ps ++ qs) := by
  show EC.mk _ _ _ _ _ = EC.mk _ _ _ _ _
  congr 1
  funext a
  simp [or_assoc]
theorem EC.pl_nil (C : EC) : C.pl [] = C := by
  show EC.mk _ _ _ _ _ = C
  cases C
  congr 1
  funext a
  simp

structure ER (K : PySem.W.Frag) (S : ES) (C : EC) (σ : St) (H : Hp) (ρ : Env) : Prop where
  len : ρ.length = σ.length
  sh : ∀ i d, i ∉ S.ow → gt ρ i = some d → ∃ v, σ[i]? = some (some v) ∧ Rep K S.T (C.O S σ ρ) H v d
  own : ∀ i d, i ∈ S.ow → gt ρ i = some d → ∃ a, σ[i]? = some (some (.ref a)) ∧ OwnAt K S.T (C.O S σ ρ) H a d ∧ (i ∉ S.fx → C.H0 a = none ∧ ¬ C.O0 a) ∧ (C.bo a ∨ (C.H0 a = none ∧ ¬ C.O0 a))
  dis : ∀ i j a, i ∈ S.ow → j ∈ S.ow → gt ρ i ≠ none → gt ρ j ≠ none → σ[i]? = some (some (.ref a)) → σ[j]? = some (some (.ref a)) → i = j
  fx : ∀ i, i ∈ S.fx → σ[i]? = some (some (C.fv i))
  fr : ∀ a u, C.H0 a = some u → C.bo a ∨ H a = some u ∨ ∃ o, (a, o, u) ∈ C.lk
  dom : ∀ a, C.H0 a ≠ none → H a ≠ none
  lks : ∀ a o u, (a, o, u) ∈ C.lk → H a = some (.frz o u) ∧ Mut (some u)
  o0 : ∀ a, C.O0 a → ∃ u, Rd H a u ∧ Mut (some u)

section
variable {K : PySem.W.Frag} {S : ES} {C : EC} {σ : St} {H H' : Hp} {ρ : Env}

theorem OwnAt.adv {T : Nat → Option Addr} {O O' : Addr → Prop} {a : Addr} {d : D} (x : RA O H O' H') (e : H' a = H a) (h : OwnAt K T O H a d) : OwnAt K T O' H' a d := by
  cases d with
  | lst ds => obtain ⟨vs, h1, h2⟩ := h; exact ⟨vs, e.trans h1, h2.adv x⟩
  | dk ds => obtain ⟨vs, h1, h2⟩ := h; exact ⟨vs, e.trans h1, h2.adv x⟩
  | dt ds => obtain ⟨vs, h1, h2⟩ := h; exact ⟨vs, e.trans h1, h2.adv x⟩
  | _ => exact h.elim
theorem OwnAt.mut {T : Nat → Option Addr} {O : Addr → Prop} {a : Addr} {d : D} (h : OwnAt K T O H a d) : ∃ u, H a = some u ∧ Mut (some u) := by
  cases d with
  | lst ds => obtain ⟨vs, h1, h2⟩ := h; exact ⟨_, h1, trivial⟩
  | dk ds => obtain ⟨vs, h1, h2⟩ := h; exact ⟨_, h1, trivial⟩
  | dt ds => obtain ⟨vs, h1, h2⟩ := h; exact ⟨_, h1, trivial⟩
  | _ => exact h.elim
theorem gt_some {ρ : Env} {i : Nat} (h : gt ρ i ≠ none) : ∃ d, gt ρ i = some d := by
  cases q : gt ρ i with
  | none => exact absurd q h
  | some d => exact ⟨d, rfl⟩

/-- what the addresses of O hold may change -/
theorem ER.omut (E : ER K S C σ H ρ) : ∀ a, C.O S σ ρ a → ∃ u, Rd H a u ∧ Mut (some u) := fun a h => by
  rcases h with h | ⟨i, hi, hl, he⟩
  · exact E.o0 a h
  · obtain ⟨d, hd⟩ := gt_some hl
    obtain ⟨b, hb, ho, _⟩ := E.own i d hi hd
    rw [he] at hb
    obtain rfl : a = b := by simpa using hb
    obtain ⟨u, h1, h2⟩ := ho.mut
    exact ⟨u, .inl h1, h2⟩
theorem ER.osome (E : ER K S C σ H ρ) {a : Addr} (h : C.O S σ ρ a) : H a ≠ none := let ⟨_, h1, _⟩ := E.omut a h; rd_some h1
theorem not_mut_tup {H : Hp} {a : Addr} {u : HO} {vs : List V} (h : Rd H a u) (m : Mut (some u)) (e : H a = some (.tup vs)) : False := by
  rcases h with h | ⟨o, h⟩
  · rw [e] at h; cases h; exact m
  · rw [e] at h; cases h
theorem ER.notup (E : ER K S C σ H ρ) {a : Addr} {vs : List V} (e : H a = some (.tup vs)) : ¬ C.O S σ ρ a := fun h => by
  obtain ⟨u, h1, h2⟩ := E.omut a h
  exact not_mut_tup h1 h2 e
/-- new objects -/
theorem ER.ext (E : ER K S C σ H ρ) (x : Ex H H') : ER K S C σ H' ρ where
  len := E.len
  sh := fun i d hi hd => let ⟨v, h1, h2⟩ := E.sh i d hi hd; ⟨v, h1, h2.adv x.ra⟩
  own := fun i d hi hd => by
    obtain ⟨a, h1, h2, h3⟩ := E.own i d hi hd
    obtain ⟨u, hu, _⟩ := h2.mut
    exact ⟨a, h1, h2.adv x.ra ((x a u hu).trans hu.symm), h3⟩
  dis := E.dis
  fx := E.fx
  fr := fun a u h => (E.fr a u h).imp id fun h => h.imp (x a u) id
  dom := fun a h => x.dm a (E.dom a h)
  lks := fun a o u h => ⟨x a _ (E.lks a o u h).1, (E.lks a o u h).2⟩
  o0 := fun a h => let ⟨u, h1, h2⟩ := E.o0 a h; ⟨u, x.rd h1, h2⟩
theorem O_pl {ps : List Addr} {a : Addr} : (C.pl ps).O S σ ρ a ↔ C.O S σ ρ a ∨ a ∈ ps :=
  ⟨fun h => h.elim (fun h => h.elim (fun h => .inl (.inl h)) .inr) fun h => .inl (.inr h), fun h => h.elim (fun h => h.elim (fun h => .inl (.inl h)) fun h => .inr h) fun h => .inl (.inr h)⟩
theorem O_plus {p : Addr} {a : Addr} : (C.pl [p]).O S σ ρ a ↔ C.O S σ ρ a ∨ a = p := by rw [O_pl]; simp
/-- a new object that nothing holds yet -/
theorem ER.alloc {p : Addr} {u : HO} (E : ER K S C σ H ρ) (hp : H p = none) (mu : Mut (some u)) : ER K S (C.pl [p]) σ (upd H p u) ρ := by
  have x : Ex H (upd H p u) := Ex.new hp
  have av : RA (C.O S σ ρ) H ((C.pl [p]).O S σ ρ) (upd H p u) := ⟨fun a w _ h => x.rd h, fun a h => (O_plus.mp h).imp id fun (e : a = p) => by rw [e]; exact hp, x.dm⟩
  have h0p : ∀ a, C.H0 a ≠ none → a ≠ p := fun a h e => E.dom a h (e ▸ hp)
  refine ⟨E.len, fun i d hi hd => let ⟨v, h1, h2⟩ := E.sh i d hi hd; ⟨v, h1, h2.adv av⟩, fun i d hi hd => ?_, E.dis, E.fx, fun a w h => (E.fr a w h).imp id fun h => h.imp (x a w) id, fun a h => x.dm a (E.dom a h), fun a o w h => ⟨x a _ (E.lks a o w h).1, (E.lks a o w h).2⟩, fun a h => ?_⟩
  · obtain ⟨a, h1, h2, h3, h4⟩ := E.own i d hi hd
    obtain ⟨w, hw, _⟩ := h2.mut
    have nap : a ≠ p := fun e => by rw [e, hp] at hw; cases hw
    exact ⟨a, h1, h2.adv av ((x a w hw).trans hw.symm), fun q => ⟨(h3 q).1, fun z => z.elim (h3 q).2 fun e => nap (by simpa using e)⟩, h4.imp id fun q => ⟨q.1, fun z => z.elim q.2 fun e => nap (by simpa using e)⟩⟩
  · rcases h with h | h
    · obtain ⟨w, h1, h2⟩ := E.o0 a h
      exact ⟨w, x.rd h1, h2⟩
    · obtain rfl : a = p := by simpa using h
      exact ⟨u, .inl upd_same, mu⟩
theorem ra_unplus {ps : List Addr} : RA ((C.pl ps).O S σ ρ) H (C.O S σ ρ) H := ⟨fun _ _ _ h => h, fun a h => .inl (O_pl.mpr (.inl h)), fun _ h => h⟩
theorem adv_unplus {ps : List Addr} : Adv ((C.pl ps).mo S σ ρ) H (C.mo S σ ρ) H := ⟨fun _ _ _ h => h, fun _ h => .inl h, fun a h => .inl (O_pl.mpr (.inl h)), fun _ h => h⟩
theorem ER.unplus {ps : List Addr} (E : ER K S (C.pl ps) σ H ρ) : ER K S C σ H ρ :=
  ⟨E.len, fun i d hi hd => let ⟨v, h1, h2⟩ := E.sh i d hi hd; ⟨v, h1, h2.adv ra_unplus⟩,
    fun i d hi hd => let ⟨a, h1, h2, h3, h4⟩ := E.own i d hi hd; ⟨a, h1, h2.adv ra_unplus rfl, fun q => ⟨(h3 q).1, fun z => (h3 q).2 (.inl z)⟩, h4.imp id fun q => ⟨q.1, fun z => q.2 (.inl z)⟩⟩,
    E.dis, E.fx, E.fr, E.dom, E.lks, fun a h => E.o0 a (.inl h)⟩

/-! ### results of expressions -/
inductive DV where
  | val (d : D) | plc (i : Nat)
  deriving Inhabited
abbrev SE := Env → Res (DV × Env)
def deref (ρ : Env) : DV → Res D
  | .val d => .ok d
  | .plc i => ofOpt (gt ρ i)
def RV (K : PySem.W.Frag) (S : ES) (C : EC) (σ : St) (H : Hp) (ρ : Env) (v : V) : DV → Prop
  | .val d => Rep K S.T (C.O S σ ρ) H v d
  | .plc i => i ∈ S.ow ∧ σ[i]? = some (some v)
/-- it can be read -/
def RT (K : PySem.W.Frag) (T : Nat → Option Addr) (O : Addr → Prop) (H : Hp) (v : V) (d : D) : Prop := Rep K T O H v d ∨ ∃ a, v = .ref a ∧ OwnAt K T O H a d
theorem RV.adv {ρ' : Env} {v : V} {x : DV} (a : Adv (C.mo S σ ρ) H (C.mo S σ ρ') H') (h : RV K S C σ H ρ v x) : RV K S C σ H' ρ' v x := by
  cases x with
  | val d => exact Rep.adv a.ra d v h
  | plc i => exact h
theorem RV.rt {v : V} {x : DV} {d : D} (E : ER K S C σ H ρ) (h : RV K S C σ H ρ v x) (e : deref ρ x = .ok d) : RT K S.T (C.O S σ ρ) H v d := by
  cases x with
  | val d' => cases e; exact .inl h
  | plc i =>
    have e' : ofOpt (gt ρ i) = .ok d := e
    cases q : gt ρ i with
    | none => rw [q] at e'; cases e'
    | some d' =>
      rw [q] at e'; cases e'
      obtain ⟨a, h1, h2, _⟩ := E.own i _ h.1 q
      rw [h.2] at h1
      obtain rfl : v = .ref a := by simpa using h1
      exact .inr ⟨a, rfl, h2⟩
theorem OwnAt.rep {T : Nat → Option Addr} {O : Addr → Prop} {a : Addr} {d : D} (h : OwnAt K T O H a d) (n : ¬ O a) : Rep K T O H (.ref a) d := by
  cases d with
  | lst ds => obtain ⟨vs, h1, h2⟩ := h; exact .lst n (.inl h1) h2
  | dk ds => obtain ⟨vs, h1, h2⟩ := h; exact .dk n (.inl h1) h2
  | dt ds => obtain ⟨vs, h1, h2⟩ := h; exact .dt n (.inl h1) h2
  | _ => exact h.elim

/-! ### errors -/
/-- what is known of an error's own dict -/
def Pay (K : PySem.W.Frag) (S : ES) (O : Addr → Prop) (H : Hp) (c : Nat) (d : Option Addr) (p : D) : Prop :=
  ∀ f, S.fld c = some f → ∃ dx v, d = some dx ∧ H dx = some (.xd [(f, v)]) ∧ Rep K S.T O H v p
def XOk (K : PySem.W.Frag) (S : ES) (W : WX) (C : EC) (c : Nat) (p : D) : Prop :=
  ∀ d σ' H' ρ', ER K S C σ' H' ρ' → Pay K S (C.O S σ' ρ') H' c d p → W (S.cls c) d σ' H'
end

/-! ### the judgements -/
/-- an expression -/
def EvE (X : Cx) (S : ES) (W : WX) (e : Expr) (f : SE) : Prop :=
  ∃ t : TE, PE X e t ∧ ∀ (C : EC) (σ : St) (H : Hp) (ρ : Env) (Q : VK), ER X.K S C σ H ρ →
    Wp (f ρ) (XOk X.K S W C) (fun r => ∀ v H', ER X.K S C σ H' r.2 → Adv (C.mo S σ ρ) H (C.mo S σ r.2) H' → RV X.K S C σ H' r.2 v r.1 → Q v H') → t σ H Q
/-- an expression that makes a new list or dict -/
def EvF (X : Cx) (S : ES) (W : WX) (e : Expr) (f : Env → Res (D × Env)) : Prop :=
  ∃ t : TE, PE X e t ∧ ∀ (C : EC) (σ : St) (H : Hp) (ρ : Env) (Q : VK), ER X.K S C σ H ρ →
    Wp (f ρ) (XOk X.K S W C) (fun r => ∀ p H', H p = none → ¬ C.O S σ r.2 p → ER X.K S (C.pl [p]) σ H' r.2 → Adv (C.mo S σ ρ) H (C.mo S σ r.2) H' → OwnAt X.K S.T ((C.pl [p]).O S σ r.2) H' p r.1 → Q (.ref p) H') → t σ H Q
/-- a test -/
def EvT (X : Cx) (S : ES) (W : WX) (e : Expr) (f : Env → Res (Bool × Env)) : Prop :=
  ∃ t : TT, PT X e t ∧ ∀ (C : EC) (σ : St) (H : Hp) (ρ : Env) (Q : Bool → Hp → Prop), ER X.K S C σ H ρ →
    Wp (f ρ) (XOk X.K S W C) (fun r => ∀ H', ER X.K S C σ H' r.2 → Adv (C.mo S σ ρ) H (C.mo S σ r.2) H' → Q r.1 H') → t σ H Q
def EvW (X : Cx) (S : ES) (W : WX) (e : Expr) (f : Env → Res (Bool × Env)) : Prop :=
  ∃ t : TT, PW X e t ∧ ∀ (C : EC) (σ : St) (H : Hp) (ρ : Env) (Q : Bool → Hp → Prop), ER X.K S C σ H ρ →
    Wp (f ρ) (XOk X.K S W C) (fun r => ∀ H', ER X.K S C σ H' r.2 → Adv (C.mo S σ ρ) H (C.mo S σ r.2) H' → Q r.1 H') → t σ H Q
def RVs (K : PySem.W.Frag) (S : ES) (C : EC) (σ : St) (H : Hp) (ρ : Env) : List V → List DV → Prop
  | [], [] => True
  | v :: vs, x :: xs => RV K S C σ H ρ v x ∧ RVs K S C σ H ρ vs xs
  | _, _ => False
theorem RVs.adv {K : PySem.W.Frag} {S : ES} {C : EC} {σ : St} {H H' : Hp} {ρ ρ' : Env} (a : Adv (C.mo S σ ρ) H (C.mo S σ ρ') H') : ∀ {vs : List V} {xs : List DV}, RVs K S C σ H ρ vs xs → RVs K S C σ H' ρ' vs xs
  | [], [], _ => trivial
  | _ :: _, _ :: _, h => ⟨h.1.adv a, RVs.adv a h.2⟩
  | [], _ :: _, h => h.elim
  | _ :: _, [], h => h.elim
/-- an argument list -/
def EvA (X : Cx) (S : ES) (W : WX) (es : List Expr) (f : Env → Res (List DV × Env)) : Prop :=
  ∃ t : TA, PA X es t ∧ ∀ (C : EC) (σ : St) (H : Hp) (ρ : Env) (Q : List V → Hp → Prop), ER X.K S C σ H ρ →
    Wp (f ρ) (XOk X.K S W C) (fun r => ∀ vs H', ER X.K S C σ H' r.2 → Adv (C.mo S σ ρ) H (C.mo S σ r.2) H' → RVs X.K S C σ H' r.2 vs r.1 → Q vs H') → t σ H Q
inductive Fl where
  | nx | brk | cont | ret (d : D)
abbrev SS := Env → Res (Fl × Env)
def EndOk (K : PySem.W.Frag) (S : ES) (C : EC) (E : Ends) (fl : Fl) (ρ : Env) (σ : St) (H : Hp) : Prop :=
  match fl with
  | .nx => E.nx σ H
  | .brk => E.bk σ H
  | .cont => E.ct σ H
  | .ret d => ∀ v, Rep K S.T (C.O S σ ρ) H v d → E.rt v H
/-- a statement -/
def EvS (X : Cx) (S : ES) (W : WX) (s : Stmt) (f : SS) : Prop :=
  ∃ t : TS, PS X s t ∧ ∀ (C : EC) (σ : St) (H : Hp) (ρ : Env) (E : Ends), ER X.K S C σ H ρ →
    Wp (f ρ) (XOk X.K S W C) (fun r => ∀ σ' H', ER X.K S C σ' H' r.2 → Adv (C.mo S σ ρ) H (C.mo S σ' r.2) H' → EndOk X.K S C E r.1 r.2 σ' H') → t E σ H
def EvB (X : Cx) (S : ES) (W : WX) (s : List Stmt) (f : SS) : Prop :=
  ∃ t : TS, PSs X s t ∧ ∀ (C : EC) (σ : St) (H : Hp) (ρ : Env) (E : Ends), ER X.K S C σ H ρ →
    Wp (f ρ) (XOk X.K S W C) (fun r => ∀ σ' H', ER X.K S C σ' H' r.2 → Adv (C.mo S σ ρ) H (C.mo S σ' r.2) H' → EndOk X.K S C E r.1 r.2 σ' H') → t E σ H
/-- a target -/
def EvG (X : Cx) (S : ES) (ts : List Nat) (tg : Expr) (g : D → Env → Res Env) : Prop :=
  ∃ t : TG, PG X tg t ∧ ∀ (C : EC) (σ : St) (H : Hp) (ρ : Env) (v : V) (d : D) (Q : St → Hp → Prop), ER X.K S C σ H ρ → Rep X.K S.T (C.O S σ ρ) H v d →
    Wp (g d ρ) (fun _ _ => False) (fun ρ' => ∀ σ' H', ER X.K S C σ' H' ρ' → Adv (C.mo S σ ρ) H (C.mo S σ' ρ') H' → (∀ vs, (∀ i, i ∈ ts → i ∈ vs) → wipe σ' vs = wipe σ vs) → Q σ' H') → t v σ H Q
/-- what a walk gives, whatever the code between its turns does; m, H: where it began -/
structure ItD (K : PySem.W.Frag) (S : ES) (J : It) (xs : List D) (m : MO) (H : Hp) : Prop where
  go : ∀ (m1 : MO) H1 i, RA m.O H m1.O H1 → i < xs.length → J.go i H1
  stop : ∀ (m1 : MO) H1, RA m.O H m1.O H1 → J.stop xs.length H1
  yld : ∀ (C : EC) (S' : ES) σ H1 ρ i x H2 d, S'.T = S.T → ER K S' C σ H1 ρ → RA m.O H (C.O S' σ ρ) H1 → J.yld i H1 x H2 → xs[i]? = some d → Ex H1 H2 ∧ Rep K S'.T (C.O S' σ ρ) H2 x d
def EvI (X : Cx) (S : ES) (W : WX) (tg e : Expr) (f : Env → Res (List D × Env)) : Prop :=
  ∃ w : TI, PI X tg e w ∧ ∀ (C : EC) (σ : St) (H : Hp) (ρ : Env) (R : It → Hp → Prop), ER X.K S C σ H ρ →
    Wp (f ρ) (XOk X.K S W C) (fun r => ∀ J H', ER X.K S C σ H' r.2 → Adv (C.mo S σ ρ) H (C.mo S σ r.2) H' → ItD X.K S J r.1 (C.mo S σ r.2) H' → R J H') → w σ H R
end EV

namespace EV
open PySem PySem.Spec L2 SX
open PyProof.Rows hiding St

abbrev LIM : Nat := 16777216
theorem lim_eq : (sizeLine : Nat) = LIM := sizeLine_eq
/-- what O's addresses hold may change (so they are no tuples, and known) -/
abbrev OH (O : Addr → Prop) (H : Hp) : Prop := ∀ a, O a → ∃ u, Rd H a u ∧ Mut (some u)
theorem OH.fresh {O : Addr → Prop} {H : Hp} (h : OH O H) {p : Addr} (hp : H p = none) : ¬ O p := fun z => by
  obtain ⟨u, h1, _⟩ := h p z
  exact rd_some h1 hp
theorem OH.tup {O : Addr → Prop} {H : Hp} (h : OH O H) {p : Addr} {vs : List V} (hp : H p = some (.tup vs)) : ¬ O p := fun z => by
  obtain ⟨u, h1, h2⟩ := h p z
  exact not_mut_tup h1 h2 hp

theorem deref_wp {α : Type} {ρ : Env} {x : DV} {f : D → Res α} {X : Nat → D → Prop} {Q : α → Prop} (h : Wp (deref ρ x >>= f) X Q) : ∃ d, deref ρ x = .ok d ∧ Wp (f d) X Q := by
  cases x with
  | val d => exact ⟨d, rfl, h⟩
  | plc i =>
    have e : deref ρ (.plc i) = ofOpt (gt ρ i) := rfl
    rw [e] at h ⊢
    cases q : gt ρ i with
    | none => rw [q] at h; exact h.elim
    | some d => rw [q] at h; exact ⟨d, rfl, h⟩
theorem opt_wp {α β : Type} {o : Option β} {f : β → Res α} {X : Nat → D → Prop} {Q : α → Prop} (h : Wp (ofOpt o >>= f) X Q) : ∃ d, o = some d ∧ Wp (f d) X Q := by
  cases o with
  | none => exact h.elim
  | some d => exact ⟨d, rfl, h⟩

section
variable {X : Cx} {S : ES} {W : WX} {pos : Pos}

/-! ### names, constants -/
def eC (d : D) : SE := fun ρ => .ok (.val d, ρ)
def eVar (i : Nat) : SE := fun ρ => ofOpt (gt ρ i) >>= fun d => .ok (.val d, ρ)
def ePlc (i : Nat) : SE := fun ρ => ofOpt (gt ρ i) >>= fun _ => .ok (.plc i, ρ)
theorem ev_var {i : Nat} {x : Str} (ho : i ∉ S.ow) (hN : X.N[i]? = some x) (hv : Vis X.env.scope x) (hd : (x == ("__debug__" : Str)) = false := by decide) (hcd : (x == ("__classdict__" : Str)) = false := by decide) : EvE X S W (.Name x pos) (eVar i) := by
  refine ⟨tVar i, pe_var hN hv hd hcd, fun C σ H ρ Q E w => ?_⟩
  obtain ⟨d, e, w⟩ := opt_wp w
  obtain ⟨v, h1, h2⟩ := E.sh i d ho e
  exact ⟨v, h1, w v H E (.refl _ _) h2⟩
theorem ev_plc {i : Nat} {x : Str} (ho : i ∈ S.ow) (hN : X.N[i]? = some x) (hv : Vis X.env.scope x) (hd : (x == ("__debug__" : Str)) = false := by decide) (hcd : (x == ("__classdict__" : Str)) = false := by decide) : EvE X S W (.Name x pos) (ePlc i) := by
  refine ⟨tVar i, pe_var hN hv hd hcd, fun C σ H ρ Q E w => ?_⟩
  obtain ⟨d, e, w⟩ := opt_wp w
  obtain ⟨a, h1, _⟩ := E.own i d ho e
  exact ⟨.ref a, h1, w _ H E (.refl _ _) ⟨ho, h1⟩⟩
theorem ev_c {e : Expr} {v : V} {d : D} (h : PE X e (tC v)) (hr : ∀ O H, Rep X.K S.T O H v d) : EvE X S W e (eC d) :=
  ⟨tC v, h, fun C σ H ρ Q E w => w v H E (.refl _ _) (hr _ _)⟩
theorem ev_int {i j} : EvE X S W (.Constant (.int i) j pos) (eC (.int i)) := ev_c pe_int fun _ _ => .int i
theorem ev_bl {b j} : EvE X S W (.Constant (.bool b) j pos) (eC (.bl b)) := ev_c pe_bl fun _ _ => .bl b
theorem ev_non {j} : EvE X S W (.Constant .none j pos) (eC .non) := ev_c pe_non fun _ _ => .non
theorem ev_str {x : Str} {j} (s : List Nat) (h : x = SX.S s := by rfl) (hv : s.all (fun c => decide (c < 1114112)) = true := by decide) : EvE X S W (.Constant (.str x) j pos) (eC (.str s)) := by
  subst h
  exact ev_c pe_str fun _ _ => .str s fun c hc => of_decide_eq_true (List.all_eq_true.mp hv c hc)
/-- a name of the module, a def as a value -/
theorem ev_glob {x : Str} {v : V} {u : Value} {d : D} (hg : Gl X x) (hm : X.mg x = some u) (r : RelV v u) (hr : ∀ O H, Rep X.K S.T O H v d) (hd : (x == ("__debug__" : Str)) = false := by decide) : EvE X S W (.Name x pos) (eC d) := ev_c (pe_glob hg hm r hd) hr

/-! ### operations on values -/
/-- f does to data what g says -/
def OpD (X : Cx) (f : Value → Value → Sem Value) (g : D → D → Option D) : Prop :=
  ∃ r : R2, OpR X f r ∧ ∀ (T : Nat → Option Addr) (O : Addr → Prop) (H : Hp) v1 v2 d1 d2 d (Q : VK), OH O H → RT X.K T O H v1 d1 → RT X.K T O H v2 d2 → g d1 d2 = some d → (∀ v H', Ex H H' → Rep X.K T O H' v d → Q v H') → r v1 v2 H Q
def UnD (X : Cx) (f : Value → Sem Value) (g : D → Option D) : Prop :=
  ∃ r, UnR X f r ∧ ∀ (T : Nat → Option Addr) (O : Addr → Prop) (H : Hp) v1 d1 d (Q : VK), OH O H → RT X.K T O H v1 d1 → g d1 = some d → (∀ v H', Ex H H' → Rep X.K T O H' v d → Q v H') → r v1 H Q
def eBin (g : D → D → Option D) (f1 f2 : SE) : SE := fun ρ => f1 ρ >>= fun r1 => f2 r1.2 >>= fun r2 => deref r2.2 r1.1 >>= fun d1 => deref r2.2 r2.1 >>= fun d2 => ofOpt (g d1 d2) >>= fun d => .ok (.val d, r2.2)
def eUn (g : D → Option D) (f1 : SE) : SE := fun ρ => f1 ρ >>= fun r1 => deref r1.2 r1.1 >>= fun d1 => ofOpt (g d1) >>= fun d => .ok (.val d, r1.2)
variable {a b c : Expr} {fa fb fc : SE} {g g' : D → D → Option D}

theorem two {ta tb : TE} {σ : St} {H : Hp} {ρ : Env} {C : EC} {r : R2} {Q : VK}
    (qa : ∀ (C : EC) (σ : St) (H : Hp) (ρ : Env) (Q : VK), ER X.K S C σ H ρ → Wp (fa ρ) (XOk X.K S W C) (fun r => ∀ v H', ER X.K S C σ H' r.2 → Adv (C.mo S σ ρ) H (C.mo S σ r.2) H' → RV X.K S C σ H' r.2 v r.1 → Q v H') → ta σ H Q)
    (qb : ∀ (C : EC) (σ : St) (H : Hp) (ρ : Env) (Q : VK), ER X.K S C σ H ρ → Wp (fb ρ) (XOk X.K S W C) (fun r => ∀ v H', ER X.K S C σ H' r.2 → Adv (C.mo S σ ρ) H (C.mo S σ r.2) H' → RV X.K S C σ H' r.2 v r.1 → Q v H') → tb σ H Q)
    (qr : ∀ (T : Nat → Option Addr) (O : Addr → Prop) (H : Hp) v1 v2 d1 d2 d (Q : VK), OH O H → RT X.K T O H v1 d1 → RT X.K T O H v2 d2 → g d1 d2 = some d → (∀ v H', Ex H H' → Rep X.K T O H' v d → Q v H') → r v1 v2 H Q)
    (E : ER X.K S C σ H ρ) (w : Wp (eBin g fa fb ρ) (XOk X.K S W C) (fun r => ∀ v H', ER X.K S C σ H' r.2 → Adv (C.mo S σ ρ) H (C.mo S σ r.2) H' → RV X.K S C σ H' r.2 v r.1 → Q v H')) : tOp r ta tb σ H Q := by
  refine qa C σ H ρ _ E ((Wp.bind w).mono (fun _ _ h => h) fun r1 _ w1 v1 H1 E1 A1 R1 => ?_)
  refine qb C σ H1 r1.2 _ E1 ((Wp.bind w1).mono (fun _ _ h => h) fun r2 _ w2 v2 H2 E2 A2 R2 => ?_)
  obtain ⟨d1, e1, w3⟩ := deref_wp w2
  obtain ⟨d2, e2, w4⟩ := deref_wp w3
  obtain ⟨d, e, w5⟩ := opt_wp w4
  exact qr S.T _ H2 v1 v2 d1 d2 d Q E2.omut ((R1.adv A2).rt E2 e1) (R2.rt E2 e2) e fun v H' x rp => w5 v H' (E2.ext x) ((A1.trans A2).trans x.adv) rp
theorem ev_bin {op : Operator} (ho : OpD X (binaryOp op) g) (ha : EvE X S W a fa) (hb : EvE X S W b fb) : EvE X S W (.BinOp a op b pos) (eBin g fa fb) := by
  obtain ⟨ta, pa, qa⟩ := ha
  obtain ⟨tb, pb, qb⟩ := hb
  obtain ⟨r, hr, qr⟩ := ho
  exact ⟨_, pe_op hr pa pb, fun C σ H ρ Q E w => two qa qb qr E w⟩
theorem ev_un {op : UnaryOp} {g : D → Option D} (ho : UnD X (unaryOp op) g) (ha : EvE X S W a fa) : EvE X S W (.UnaryOp op a pos) (eUn g fa) := by
  obtain ⟨ta, pa, qa⟩ := ha
  obtain ⟨r, hr, qr⟩ := ho
  refine ⟨_, pe_un hr pa, fun C σ H ρ Q E w => ?_⟩
  refine qa C σ H ρ _ E ((Wp.bind w).mono (fun _ _ h => h) fun r1 _ w1 v1 H1 E1 A1 R1 => ?_)
  obtain ⟨d1, e1, w3⟩ := deref_wp w1
  obtain ⟨d, e, w5⟩ := opt_wp w3
  exact qr S.T _ H1 v1 d1 d Q E1.omut (R1.rt E1 e1) e fun v H' x rp => w5 v H' (E1.ext x) (A1.trans x.adv) rp
theorem ev_cmp {op : CmpOp} (ho : OpD X (compareOp op) g) (ha : EvE X S W a fa) (hb : EvE X S W b fb) (hm : behindInMarks op b = false) : EvE X S W (.Compare a [op] [b] pos) (eBin g fa fb) := by
  obtain ⟨ta, pa, qa⟩ := ha
  obtain ⟨tb, pb, qb⟩ := hb
  obtain ⟨r, hr, qr⟩ := ho
  exact ⟨_, pe_cmpR hr pa pb hm, fun C σ H ρ Q E w => two qa qb qr E w⟩
/-- a reading of a value as a test: the value is a bool -/
def asB : DV → Option Bool
  | .val (.bl b) => some b
  | _ => none
theorem RV.bl {C : EC} {σ : St} {H : Hp} {ρ : Env} {v : V} {x : DV} {k : Bool} (h : RV X.K S C σ H ρ v x) (e : asB x = some k) : v = .bl k := by
  cases x with
  | val d =>
    cases d with
    | bl k' =>
      have e' : some k' = some k := e
      cases e'
      have h' : Rep X.K S.T (C.O S σ ρ) H v (.bl k) := h
      cases h'
      rfl
    | _ => cases e
  | plc i => cases e
def tB (f : SE) : Env → Res (Bool × Env) := fun ρ => f ρ >>= fun r => ofOpt (asB r.1) >>= fun k => .ok (k, r.2)
theorem et_cmp {op : CmpOp} (ho : OpD X (compareOp op) g) (ha : EvE X S W a fa) (hb : EvE X S W b fb) (hm : behindInMarks op b = false) : EvT X S W (.Compare a [op] [b] pos) (tB (eBin g fa fb)) := by
  obtain ⟨ta, pa, qa⟩ := ha
  obtain ⟨tb, pb, qb⟩ := hb
  obtain ⟨r, hr, qr⟩ := ho
  refine ⟨_, pt_cmpR hr pa pb hm, fun C σ H ρ Q E w => ?_⟩
  refine two qa qb qr E ((Wp.bind w).mono (fun _ _ h => h) fun r1 _ w1 v1 H1 E1 A1 R1 => ?_)
  obtain ⟨k, ek, w2⟩ := opt_wp w1
  exact ⟨k, R1.bl ek, w2 H1 E1 A1⟩
/-- a op1 b op2 c -/
def eChain (g g' : D → D → Option D) (f1 f2 f3 : SE) : SE := fun ρ => f1 ρ >>= fun r1 => f2 r1.2 >>= fun r2 => deref r2.2 r1.1 >>= fun d1 => deref r2.2 r2.1 >>= fun d2 => ofOpt (g d1 d2) >>= fun d => ofOpt (asB (.val d)) >>= fun k =>
  bif k then f3 r2.2 >>= fun r3 => deref r3.2 r2.1 >>= fun d2' => deref r3.2 r3.1 >>= fun d3 => ofOpt (g' d2' d3) >>= fun d' => .ok (.val d', r3.2) else .ok (.val (.bl false), r2.2)
theorem chain_ok {ta tb tc : TE} {σ : St} {H : Hp} {ρ : Env} {C : EC} {r r' : R2} {Q : VK}
    (qa : ∀ (C : EC) (σ : St) (H : Hp) (ρ : Env) (Q : VK), ER X.K S C σ H ρ → Wp (fa ρ) (XOk X.K S W C) (fun r => ∀ v H', ER X.K S C σ H' r.2 → Adv (C.mo S σ ρ) H (C.mo S σ r.2) H' → RV X.K S C σ H' r.2 v r.1 → Q v H') → ta σ H Q)
    (qb : ∀ (C : EC) (σ : St) (H : Hp) (ρ : Env) (Q : VK), ER X.K S C σ H ρ → Wp (fb ρ) (XOk X.K S W C) (fun r => ∀ v H', ER X.K S C σ H' r.2 → Adv (C.mo S σ ρ) H (C.mo S σ r.2) H' → RV X.K S C σ H' r.2 v r.1 → Q v H') → tb σ H Q)
    (qc : ∀ (C : EC) (σ : St) (H : Hp) (ρ : Env) (Q : VK), ER X.K S C σ H ρ → Wp (fc ρ) (XOk X.K S W C) (fun r => ∀ v H', ER X.K S C σ H' r.2 → Adv (C.mo S σ ρ) H (C.mo S σ r.2) H' → RV X.K S C σ H' r.2 v r.1 → Q v H') → tc σ H Q)
    (qr : ∀ (T : Nat → Option Addr) (O : Addr → Prop) (H : Hp) v1 v2 d1 d2 d (Q : VK), OH O H → RT X.K T O H v1 d1 → RT X.K T O H v2 d2 → g d1 d2 = some d → (∀ v H', Ex H H' → Rep X.K T O H' v d → Q v H') → r v1 v2 H Q)
    (qr' : ∀ (T : Nat → Option Addr) (O : Addr → Prop) (H : Hp) v1 v2 d1 d2 d (Q : VK), OH O H → RT X.K T O H v1 d1 → RT X.K T O H v2 d2 → g' d1 d2 = some d → (∀ v H', Ex H H' → Rep X.K T O H' v d → Q v H') → r' v1 v2 H Q)
    (E : ER X.K S C σ H ρ) (w : Wp (eChain g g' fa fb fc ρ) (XOk X.K S W C) (fun r => ∀ v H', ER X.K S C σ H' r.2 → Adv (C.mo S σ ρ) H (C.mo S σ r.2) H' → RV X.K S C σ H' r.2 v r.1 → Q v H')) : tChain r r' ta tb tc σ H Q := by
  refine qa C σ H ρ _ E ((Wp.bind w).mono (fun _ _ h => h) fun r1 _ w1 v1 H1 E1 A1 R1 => ?_)
  refine qb C σ H1 r1.2 _ E1 ((Wp.bind w1).mono (fun _ _ h => h) fun r2 _ w2 v2 H2 E2 A2 R2 => ?_)
  obtain ⟨d1, e1, w3⟩ := deref_wp w2
  obtain ⟨d2, e2, w4⟩ := deref_wp w3
  obtain ⟨d, e, w5⟩ := opt_wp w4
  obtain ⟨k, ek, w6⟩ := opt_wp w5
  refine qr S.T _ H2 v1 v2 d1 d2 d _ E2.omut ((R1.adv A2).rt E2 e1) (R2.rt E2 e2) e fun v H' x rp => ?_
  have ev : v = .bl k := RV.bl (S := S) (C := C) (σ := σ) (ρ := r2.2) (x := .val d) rp ek
  refine ⟨k, ev, ?_⟩
  cases k with
  | false => exact w6 _ H' (E2.ext x) ((A1.trans A2).trans x.adv) (Rep.bl false)
  | true =>
    refine qc C σ H' r2.2 _ (E2.ext x) ((Wp.bind w6).mono (fun _ _ h => h) fun r3 _ w7 v3 H3 E3 A3 R3 => ?_)
    obtain ⟨d2', e2', w8⟩ := deref_wp w7
    obtain ⟨d3, e3, w9⟩ := deref_wp w8
    obtain ⟨d', e', w10⟩ := opt_wp w9
    exact qr' S.T _ H3 v2 v3 d2' d3 d' Q E3.omut ((R2.adv (x.adv.trans A3)).rt E3 e2') (R3.rt E3 e3) e' fun v H4 x4 rp => w10 v H4 (E3.ext x4) ((((A1.trans A2).trans x.adv).trans A3).trans x4.adv) rp
theorem ev_chain {op op' : CmpOp} (ho : OpD X (compareOp op) g) (ho' : OpD X (compareOp op') g') (ha : EvE X S W a fa) (hb : EvE X S W b fb) (hc : EvE X S W c fc) (hm : lastMarks [op, op'] [b, c] = false := by with_unfolding_all rfl) :
    EvE X S W (.Compare a [op, op'] [b, c] pos) (eChain g g' fa fb fc) := by
  obtain ⟨ta, pa, qa⟩ := ha
  obtain ⟨tb, pb, qb⟩ := hb
  obtain ⟨tc, pc, qc⟩ := hc
  obtain ⟨r, hr, qr⟩ := ho
  obtain ⟨r', hr', qr'⟩ := ho'
  exact ⟨_, pe_chain hr hr' pa pb pc hm, fun C σ H ρ Q E w => chain_ok qa qb qc qr qr' E w⟩
theorem et_chain {op op' : CmpOp} (ho : OpD X (compareOp op) g) (ho' : OpD X (compareOp op') g') (ha : EvE X S W a fa) (hb : EvE X S W b fb) (hc : EvE X S W c fc) (hm : lastMarks [op, op'] [b, c] = false := by with_unfolding_all rfl) :
    EvT X S W (.Compare a [op, op'] [b, c] pos) (tB (eChain g g' fa fb fc)) := by
  obtain ⟨ta, pa, qa⟩ := ha
  obtain ⟨tb, pb, qb⟩ := hb
  obtain ⟨tc, pc, qc⟩ := hc
  obtain ⟨r, hr, qr⟩ := ho
  obtain ⟨r', hr', qr'⟩ := ho'
  refine ⟨_, pt_chain hr hr' pa pb pc hm, fun C σ H ρ Q E w => ?_⟩
  refine chain_ok qa qb qc qr qr' E ((Wp.bind w).mono (fun _ _ h => h) fun r1 _ w1 v1 H1 E1 A1 R1 => ?_)
  obtain ⟨k, ek, w2⟩ := opt_wp w1
  exact ⟨k, R1.bl ek, w2 H1 E1 A1⟩

/-! ### truth, and, or, not, if -/
def truth : D → Option Bool
  | .non => some false
  | .bl b => some b
  | .int i => some (i != 0)
  | .str s => if s.length ≤ LIM then some (!s.isEmpty) else none
  | .tup xs => some (!xs.isEmpty)
  | .lst xs => some (!xs.isEmpty)
  | _ => none
theorem Reps.isEmpty {K : PySem.W.Frag} {T : Nat → Option Addr} {O : Addr → Prop} {H : Hp} {vs : List V} {ds : List D} (h : Reps K T O H vs ds) : vs.isEmpty = ds.isEmpty := by cases h <;> rfl
theorem Reps.length {K : PySem.W.Frag} {T : Nat → Option Addr} {O : Addr → Prop} {H : Hp} : ∀ {vs : List V} {ds : List D}, Reps K T O H vs ds → vs.length = ds.length
  | [], [], _ => rfl
  | _ :: _, _ :: _, .cons _ h => congrArg (· + 1) h.length
theorem RT.lst {K : PySem.W.Frag} {T : Nat → Option Addr} {O : Addr → Prop} {H : Hp} {v : V} {ds : List D} (h : RT K T O H v (.lst ds)) : ∃ a vs, v = .ref a ∧ Rd H a (.lst vs) ∧ Reps K T O H vs ds := by
  rcases h with h | ⟨a, rfl, h⟩
  · cases h with
    | lst h0 h1 h2 => exact ⟨_, _, rfl, h1, h2⟩
  · obtain ⟨vs, h1, h2⟩ := h
    exact ⟨a, vs, rfl, .inl h1, h2⟩
theorem RT.tup {K : PySem.W.Frag} {T : Nat → Option Addr} {O : Addr → Prop} {H : Hp} {v : V} {ds : List D} (h : RT K T O H v (.tup ds)) : ∃ a vs, v = .ref a ∧ ShT K O H a vs ∧ Reps K T O H vs ds := by
  rcases h with h | ⟨a, rfl, h⟩
  · cases h with
    | tup h1 h2 => exact ⟨_, _, rfl, h1, h2⟩
  · exact h.elim
theorem RT.int {K : PySem.W.Frag} {T : Nat → Option Addr} {O : Addr → Prop} {H : Hp} {v : V} {i : Int} (h : RT K T O H v (.int i)) : v = .int i := by
  rcases h with h | ⟨a, rfl, h⟩
  · cases h; rfl
  · exact h.elim
theorem RT.str {K : PySem.W.Frag} {T : Nat → Option Addr} {O : Addr → Prop} {H : Hp} {v : V} {s : List Nat} (h : RT K T O H v (.str s)) : v = .str (SX.S s) := by
  rcases h with h | ⟨a, rfl, h⟩
  · cases h; rfl
  · exact h.elim
theorem RT.okS {K : PySem.W.Frag} {T : Nat → Option Addr} {O : Addr → Prop} {H : Hp} {v : V} {s : List Nat} (h : RT K T O H v (.str s)) : okS s := by
  rcases h with h | ⟨a, rfl, h⟩
  · cases h; assumption
  · exact h.elim
theorem RT.bl {K : PySem.W.Frag} {T : Nat → Option Addr} {O : Addr → Prop} {H : Hp} {v : V} {b : Bool} (h : RT K T O H v (.bl b)) : v = .bl b := by
  rcases h with h | ⟨a, rfl, h⟩
  · cases h; rfl
  · exact h.elim
theorem RT.non {K : PySem.W.Frag} {T : Nat → Option Addr} {O : Addr → Prop} {H : Hp} {v : V} (h : RT K T O H v .non) : v = .non := by
  rcases h with h | ⟨a, rfl, h⟩
  · cases h; rfl
  · exact h.elim
theorem truth_ok {K : PySem.W.Frag} {T : Nat → Option Addr} {O : Addr → Prop} {H : Hp} {v : V} {d : D} {k : Bool} (h : RT K T O H v d) (e : truth d = some k) : TruV K v H k := by
  cases d with
  | non => cases e; rw [h.non]; exact rfl
  | bl b => cases e; rw [h.bl]; exact rfl
  | int i => cases e; rw [h.int]; exact rfl
  | str s =>
    have e' : (if s.length ≤ LIM then some (!s.isEmpty) else none) = some k := e
    split at e'
    · rename_i hl
      cases e'
      rw [h.str]
      refine ⟨by rw [S_len, lim_eq]; exact hl, ?_⟩
      rw [S_len]
      cases s with
      | nil => rfl
      | cons c r =>
        have q : ((((c :: r).length : Nat) : Int) != 0) = true := by
          rw [bne_iff_ne, List.length_cons]
          omega
        rw [q]
        rfl
    · cases e'
  | tup xs =>
    cases e
    obtain ⟨a, vs, rfl, h1, h2⟩ := h.tup
    exact .inr (.inl ⟨vs, h1.sq, by rw [h2.isEmpty]⟩)
  | lst xs =>
    cases e
    obtain ⟨a, vs, rfl, h1, h2⟩ := h.lst
    exact .inl ⟨vs, .inl h1, by rw [h2.isEmpty]⟩
  | _ => cases e
def tTru (f : SE) : Env → Res (Bool × Env) := fun ρ => f ρ >>= fun r => deref r.2 r.1 >>= fun d => ofOpt (truth d) >>= fun k => .ok (k, r.2)
theorem et_truth (ha : EvE X S W a fa) (he : ∀ whole, isTrue a X.env whole = (do let v ← whole; standAt a.pos; holding [v] (truthy v))) : EvT X S W a (tTru fa) := by
  obtain ⟨ta, pa, qa⟩ := ha
  refine ⟨_, pt_truth pa he, fun C σ H ρ Q E w => ?_⟩
  refine qa C σ H ρ _ E ((Wp.bind w).mono (fun _ _ h => h) fun r1 _ w1 v1 H1 E1 A1 R1 => ?_)
  obtain ⟨d, e, w2⟩ := deref_wp w1
  obtain ⟨k, ek, w3⟩ := opt_wp w2
  exact ⟨k, truth_ok (R1.rt E1 e) ek, w3 H1 E1 A1⟩
def tNot (f : Env → Res (Bool × Env)) : Env → Res (Bool × Env) := fun ρ => f ρ >>= fun r => .ok (!r.1, r.2)
theorem et_not {f} (ha : EvT X S W a f) : EvT X S W (.UnaryOp .Not a pos) (tNot f) := by
  obtain ⟨ta, pa, qa⟩ := ha
  refine ⟨_, pt_not pa, fun C σ H ρ Q E w => ?_⟩
  exact qa C σ H ρ _ E ((Wp.bind w).mono (fun _ _ h => h) fun r1 _ w1 H1 E1 A1 => w1 H1 E1 A1)
def tAnd (f g : Env → Res (Bool × Env)) : Env → Res (Bool × Env) := fun ρ => f ρ >>= fun r => bif r.1 then g r.2 else .ok (false, r.2)
def tOr (f g : Env → Res (Bool × Env)) : Env → Res (Bool × Env) := fun ρ => f ρ >>= fun r => bif r.1 then .ok (true, r.2) else g r.2
variable {rest : List Expr}
theorem EvW.t {f} (h : EvW X S W a f) : EvT X S W a f := let ⟨t, p, q⟩ := h; ⟨t, p.pt, q⟩
theorem ew_and1 {f} (ha : EvT X S W a f) : EvW X S W (.BoolOp .And [a] pos) f := let ⟨t, p, q⟩ := ha; ⟨t, pw_and1 p, q⟩
theorem ew_or1 {f} (ha : EvT X S W a f) : EvW X S W (.BoolOp .Or [a] pos) f := let ⟨t, p, q⟩ := ha; ⟨t, pw_or1 p, q⟩
theorem ew_and {f h} (ha : EvT X S W a f) (hb : EvW X S W (.BoolOp .And (b :: rest) pos) h) : EvW X S W (.BoolOp .And (a :: b :: rest) pos) (tAnd f h) := by
  obtain ⟨ta, pa, qa⟩ := ha
  obtain ⟨tb, pb, qb⟩ := hb
  refine ⟨_, pw_and pa pb, fun C σ H ρ Q E w => ?_⟩
  refine qa C σ H ρ _ E ((Wp.bind w).mono (fun _ _ h => h) fun r1 _ w1 H1 E1 A1 => ?_)
  obtain ⟨k, ρ1⟩ := r1
  cases k with
  | true => exact qb C σ H1 ρ1 Q E1 (w1.mono (fun _ _ h => h) fun r2 _ w2 H2 E2 A2 => w2 H2 E2 (A1.trans A2))
  | false => exact w1 H1 E1 A1
theorem ew_or {f h} (ha : EvT X S W a f) (hb : EvW X S W (.BoolOp .Or (b :: rest) pos) h) : EvW X S W (.BoolOp .Or (a :: b :: rest) pos) (tOr f h) := by
  obtain ⟨ta, pa, qa⟩ := ha
  obtain ⟨tb, pb, qb⟩ := hb
  refine ⟨_, pw_or pa pb, fun C σ H ρ Q E w => ?_⟩
  refine qa C σ H ρ _ E ((Wp.bind w).mono (fun _ _ h => h) fun r1 _ w1 H1 E1 A1 => ?_)
  obtain ⟨k, ρ1⟩ := r1
  cases k with
  | false => exact qb C σ H1 ρ1 Q E1 (w1.mono (fun _ _ h => h) fun r2 _ w2 H2 E2 A2 => w2 H2 E2 (A1.trans A2))
  | true => exact w1 H1 E1 A1
/-- .. as values -/
def eAnd (f g : SE) : SE := fun ρ => f ρ >>= fun r => ofOpt (asB r.1) >>= fun k => bif k then g r.2 else .ok (.val (.bl false), r.2)
def eOr (f g : SE) : SE := fun ρ => f ρ >>= fun r => ofOpt (asB r.1) >>= fun k => bif k then .ok (.val (.bl true), r.2) else g r.2
def eNot (f : SE) : SE := fun ρ => f ρ >>= fun r => ofOpt (asB r.1) >>= fun k => .ok (.val (.bl (!k)), r.2)
theorem ev_one {op} (h : EvE X S W a fa) : EvE X S W (.BoolOp op [a] pos) fa := let ⟨t, p, q⟩ := h; ⟨t, pe_one p, q⟩
theorem ev_and (ha : EvE X S W a fa) (hb : EvE X S W (.BoolOp .And (b :: rest) pos) fb) : EvE X S W (.BoolOp .And (a :: b :: rest) pos) (eAnd fa fb) := by
  obtain ⟨ta, pa, qa⟩ := ha
  obtain ⟨tb, pb, qb⟩ := hb
  refine ⟨_, pe_and pa pb, fun C σ H ρ Q E w => ?_⟩
  refine qa C σ H ρ _ E ((Wp.bind w).mono (fun _ _ h => h) fun r1 _ w1 v1 H1 E1 A1 R1 => ?_)
  obtain ⟨k, ek, w2⟩ := opt_wp w1
  refine ⟨k, R1.bl ek, ?_⟩
  cases k with
  | true => exact qb C σ H1 r1.2 Q E1 (w2.mono (fun _ _ h => h) fun r2 _ w3 v2 H2 E2 A2 R2 => w3 v2 H2 E2 (A1.trans A2) R2)
  | false => exact w2 _ H1 E1 A1 (Rep.bl false)
theorem ev_or (ha : EvE X S W a fa) (hb : EvE X S W (.BoolOp .Or (b :: rest) pos) fb) : EvE X S W (.BoolOp .Or (a :: b :: rest) pos) (eOr fa fb) := by
  obtain ⟨ta, pa, qa⟩ := ha
  obtain ⟨tb, pb, qb⟩ := hb
  refine ⟨_, pe_or pa pb, fun C σ H ρ Q E w => ?_⟩
  refine qa C σ H ρ _ E ((Wp.bind w).mono (fun _ _ h => h) fun r1 _ w1 v1 H1 E1 A1 R1 => ?_)
  obtain ⟨k, ek, w2⟩ := opt_wp w1
  refine ⟨k, R1.bl ek, ?_⟩
  cases k with
  | false => exact qb C σ H1 r1.2 Q E1 (w2.mono (fun _ _ h => h) fun r2 _ w3 v2 H2 E2 A2 R2 => w3 v2 H2 E2 (A1.trans A2) R2)
  | true => exact w2 _ H1 E1 A1 (Rep.bl true)
theorem ev_not (ha : EvE X S W a fa) : EvE X S W (.UnaryOp .Not a pos) (eNot fa) := by
  obtain ⟨ta, pa, qa⟩ := ha
  refine ⟨_, pe_not pa, fun C σ H ρ Q E w => ?_⟩
  refine qa C σ H ρ _ E ((Wp.bind w).mono (fun _ _ h => h) fun r1 _ w1 v1 H1 E1 A1 R1 => ?_)
  obtain ⟨k, ek, w2⟩ := opt_wp w1
  exact ⟨k, R1.bl ek, w2 _ H1 E1 A1 (Rep.bl _)⟩
def eIf (t : Env → Res (Bool × Env)) (f g : SE) : SE := fun ρ => t ρ >>= fun r => bif r.1 then f r.2 else g r.2
theorem ev_if {t} (hc : EvT X S W c t) (ha : EvE X S W a fa) (hb : EvE X S W b fb) : EvE X S W (.IfExp c a b pos) (eIf t fa fb) := by
  obtain ⟨tc, pc, qc⟩ := hc
  obtain ⟨ta, pa, qa⟩ := ha
  obtain ⟨tb, pb, qb⟩ := hb
  refine ⟨_, pe_ifExp pc pa pb, fun C σ H ρ Q E w => ?_⟩
  refine qc C σ H ρ _ E ((Wp.bind w).mono (fun _ _ h => h) fun r1 _ w1 H1 E1 A1 => ?_)
  obtain ⟨k, ρ1⟩ := r1
  cases k with
  | true => exact qa C σ H1 ρ1 Q E1 (w1.mono (fun _ _ h => h) fun r2 _ w3 v2 H2 E2 A2 R2 => w3 v2 H2 E2 (A1.trans A2) R2)
  | false => exact qb C σ H1 ρ1 Q E1 (w1.mono (fun _ _ h => h) fun r2 _ w3 v2 H2 E2 A2 R2 => w3 v2 H2 E2 (A1.trans A2) R2)

/-! ### arguments, displays -/
variable {es : List Expr} {fs : Env → Res (List DV × Env)}
def aNil : Env → Res (List DV × Env) := fun ρ => .ok ([], ρ)
def aCons (f : SE) (fs : Env → Res (List DV × Env)) : Env → Res (List DV × Env) := fun ρ => f ρ >>= fun r1 => fs r1.2 >>= fun r2 => .ok (r1.1 :: r2.1, r2.2)
theorem ea_nil : EvA X S W [] aNil := ⟨_, pa_nil, fun C σ H ρ Q E w => w [] H E (.refl _ _) trivial⟩
theorem ea_cons {e : Expr} {f : SE} (ha : EvE X S W e f) (hr : EvA X S W es fs) (hs : starEach (e :: es) X.env = (false, eval e X.env) :: starEach es X.env := by rfl) : EvA X S W (e :: es) (aCons f fs) := by
  obtain ⟨ta, pa, qa⟩ := ha
  obtain ⟨tr, pr, qr⟩ := hr
  refine ⟨_, pa_cons pa pr hs, fun C σ H ρ Q E w => ?_⟩
  refine qa C σ H ρ _ E ((Wp.bind w).mono (fun _ _ h => h) fun r1 _ w1 v1 H1 E1 A1 R1 => ?_)
  refine qr C σ H1 r1.2 _ E1 ((Wp.bind w1).mono (fun _ _ h => h) fun r2 _ w2 vs H2 E2 A2 R2 => ?_)
  exact w2 (v1 :: vs) H2 E2 (A1.trans A2) ⟨R1.adv A2, R2⟩
/-- all are values, none an owned place -/
def vals : List DV → Option (List D)
  | [] => some []
  | .val d :: r => (vals r).map (d :: ·)
  | .plc _ :: _ => none
theorem RVs.reps {C : EC} {σ : St} {H : Hp} {ρ : Env} : ∀ {vs : List V} {xs : List DV} {ds : List D}, RVs X.K S C σ H ρ vs xs → vals xs = some ds → Reps X.K S.T (C.O S σ ρ) H vs ds
  | [], [], ds, _, e => by cases e; exact .nil
  | v :: vs, .val d :: xs, ds, h, e => by
    have e' : (vals xs).map (d :: ·) = some ds := e
    cases q : vals xs with
    | none => rw [q] at e'; cases e'
    | some ds' =>
      rw [q] at e'
      obtain rfl : d :: ds' = ds := by simpa using e'
      exact .cons h.1 (RVs.reps h.2 q)
  | v :: vs, .plc i :: xs, ds, h, e => by cases e
  | [], _ :: _, _, h, _ => h.elim
  | _ :: _, [], _, h, _ => h.elim
def lim (n : Nat) : Option Unit := if n ≤ LIM then some () else none
theorem lim_ok {n : Nat} {u : Unit} (h : lim n = some u) : n ≤ sizeLine := by
  unfold lim at h
  split at h
  · rw [lim_eq]; assumption
  · cases h
def eTup (fs : Env → Res (List DV × Env)) : SE := fun ρ => fs ρ >>= fun r => ofOpt (vals r.1) >>= fun ds => ofOpt (lim ds.length) >>= fun _ => .ok (.val (.tup ds), r.2)
def fLst (fs : Env → Res (List DV × Env)) : Env → Res (D × Env) := fun ρ => fs ρ >>= fun r => ofOpt (vals r.1) >>= fun ds => ofOpt (lim ds.length) >>= fun _ => .ok (.lst ds, r.2)
theorem ev_tup {x1} (h : EvA X S W es fs) : EvE X S W (.Tuple es x1 pos) (eTup fs) := by
  obtain ⟨t, p, q⟩ := h
  refine ⟨_, pe_tup p, fun C σ H ρ Q E w => ?_⟩
  refine q C σ H ρ _ E ((Wp.bind w).mono (fun _ _ h => h) fun r1 _ w1 vs H1 E1 A1 R1 => ?_)
  obtain ⟨ds, e, w2⟩ := opt_wp w1
  obtain ⟨u, e2, w3⟩ := opt_wp w2
  have rs := R1.reps e
  refine ⟨by rw [rs.length]; exact lim_ok e2, fun p hp => ?_⟩
  have x : Ex H1 (upd H1 p (.tup vs)) := Ex.new hp
  exact w3 _ _ (E1.ext x) (A1.trans x.adv) (Rep.tup (.inl ⟨OH.fresh E1.omut hp, .inl upd_same⟩) (rs.adv x.ra))
theorem ER.h0 {K : PySem.W.Frag} {C : EC} {σ : St} {H : Hp} {ρ : Env} (E : ER K S C σ H ρ) {p : Addr} (hp : H p = none) : C.H0 p = none := by
  cases q : C.H0 p with
  | none => rfl
  | some u => exact absurd hp (E.dom p (some_ne q))
theorem ra_plus {C : EC} {σ : St} {H H' : Hp} {ρ : Env} {p : Addr} (hp : H p = none) (x : Ex H H') : RA (C.O S σ ρ) H ((C.pl [p]).O S σ ρ) H' :=
  ⟨fun a w _ h => x.rd h, fun a h => (O_plus.mp h).imp id fun (e : a = p) => by rw [e]; exact hp, x.dm⟩
theorem adv_plus {C : EC} {σ : St} {H H' : Hp} {ρ : Env} {p : Addr} (hp : H p = none) (x : Ex H H') : Adv (C.mo S σ ρ) H ((C.pl [p]).mo S σ ρ) H' :=
  ⟨fun a w _ h => x a w h, fun _ h => .inl h, fun a h => (O_plus.mp h).imp id fun (e : a = p) => by rw [e]; exact hp, x.dm⟩
theorem Adv.back {m m' : MO} {H H' : Hp} (a : Adv m H m' H') {p : Addr} (h : H' p = none) : H p = none := by
  cases q : H p with
  | none => rfl
  | some u => exact absurd h (a.dm p (some_ne q))
theorem ef_lst (h : EvA X S W es fs) : EvF X S W (.List es pos) (fLst fs) := by
  obtain ⟨t, p, q⟩ := h
  refine ⟨_, pe_lst p, fun C σ H ρ Q E w => ?_⟩
  refine q C σ H ρ _ E ((Wp.bind w).mono (fun _ _ h => h) fun r1 _ w1 vs H1 E1 A1 R1 => ?_)
  obtain ⟨ds, e, w2⟩ := opt_wp w1
  obtain ⟨u, e2, w3⟩ := opt_wp w2
  have rs := R1.reps e
  refine ⟨by rw [rs.length]; exact lim_ok e2, fun p hp => ?_⟩
  have x : Ex H1 (upd H1 p (.lst vs)) := Ex.new hp
  exact w3 p _ (A1.back hp) (OH.fresh E1.omut hp) (E1.alloc hp trivial) (A1.trans x.adv) ⟨vs, upd_same, rs.adv (ra_plus hp x)⟩
/-- a new object as a value: it will not change -/
def eF (f : Env → Res (D × Env)) : SE := fun ρ => f ρ >>= fun r => .ok (.val r.1, r.2)
theorem ev_f {e : Expr} {f} (h : EvF X S W e f) : EvE X S W e (eF f) := by
  obtain ⟨t, p, q⟩ := h
  refine ⟨t, p, fun C σ H ρ Q E w => ?_⟩
  refine q C σ H ρ _ E ((Wp.bind w).mono (fun _ _ h => h) fun r1 _ w1 p H1 h0 no E1 A1 ow => ?_)
  exact w1 _ H1 E1.unplus A1 ((ow.adv ra_unplus rfl).rep no)
end
end EV

namespace EV
open PySem PySem.Spec L2 SX
open PyProof.Rows hiding St

/-! ### the relation under stores -/
section
variable {K : PySem.W.Frag} {S : ES} {C : EC} {σ : St} {H H' : Hp} {ρ ρ' : Env}
theorem sub_ra {O O' : Addr → Prop} (h : ∀ a, O' a → O a) : RA O H O' H := ⟨fun _ _ _ h => h, fun a z => .inl (h a z), fun _ h => h⟩
theorem M_weak (h : ∀ i, gt ρ' i = none ∨ gt ρ' i = gt ρ i) {a : Addr} (m : EC.M S σ ρ' a) : EC.M S σ ρ a := by
  obtain ⟨i, h1, h2, h3⟩ := m
  rcases h i with e | e
  · exact absurd e h2
  · exact ⟨i, h1, e ▸ h2, h3⟩
theorem O_weak (h : ∀ i, gt ρ' i = none ∨ gt ρ' i = gt ρ i) {a : Addr} (m : C.O S σ ρ' a) : C.O S σ ρ a := m.imp id (M_weak h)
theorem adv_weak (h : ∀ i, gt ρ' i = none ∨ gt ρ' i = gt ρ i) : Adv (C.mo S σ ρ) H (C.mo S σ ρ') H := ⟨fun _ _ _ h => h, fun a m => .inl (M_weak h m), fun a m => .inl (O_weak h m), fun _ h => h⟩
theorem ER.weak (E : ER K S C σ H ρ) (hl : ρ'.length = ρ.length) (h : ∀ i, gt ρ' i = none ∨ gt ρ' i = gt ρ i) : ER K S C σ H ρ' where
  len := hl.trans E.len
  sh := fun i d hi hd => by
    rcases h i with e | e
    · rw [e] at hd; cases hd
    · obtain ⟨v, h1, h2⟩ := E.sh i d hi (e ▸ hd)
      exact ⟨v, h1, h2.adv (sub_ra fun a => O_weak h)⟩
  own := fun i d hi hd => by
    rcases h i with e | e
    · rw [e] at hd; cases hd
    · obtain ⟨a, h1, h2, h3⟩ := E.own i d hi (e ▸ hd)
      exact ⟨a, h1, h2.adv (sub_ra fun a => O_weak h) rfl, h3⟩
  dis := fun i j a hi hj h1 h2 => by
    have li : gt ρ i ≠ none := (h i).elim (fun e => absurd e h1) fun e => e ▸ h1
    have lj : gt ρ j ≠ none := (h j).elim (fun e => absurd e h2) fun e => e ▸ h2
    exact E.dis i j a hi hj li lj
  fx := E.fx
  fr := E.fr
  dom := E.dom
  lks := E.lks
  o0 := E.o0
theorem kill_le (i : Nat) : ∀ j, gt (st ρ i none) j = none ∨ gt (st ρ i none) j = gt ρ j := fun j => by
  by_cases e : j = i
  · subst e; exact .inl (gt_st_none ρ j)
  · exact .inr (gt_st_ne ρ i j none e)
theorem gt_st_some {i j : Nat} {d d' : D} (h : gt (st ρ i (some d)) j = some d') : (j = i ∧ i < ρ.length ∧ d' = d) ∨ (j ≠ i ∧ gt ρ j = some d') := by
  by_cases e : j = i
  · subst e
    have hl := gt_lt h
    rw [st_length] at hl
    rw [gt_st_same ρ j _ hl] at h
    cases h
    exact .inl ⟨rfl, hl, rfl⟩
  · rw [gt_st_ne ρ i j _ e] at h
    exact .inr ⟨e, h⟩
theorem gt_st_live {i j : Nat} {d : D} (h : gt (st ρ i (some d)) j ≠ none) : (j = i ∧ i < ρ.length) ∨ (j ≠ i ∧ gt ρ j ≠ none) := by
  obtain ⟨d', e⟩ := gt_some h
  rcases gt_st_some e with ⟨a, b, _⟩ | ⟨a, b⟩
  · exact .inl ⟨a, b⟩
  · exact .inr ⟨a, some_ne b⟩
theorem set_at {i : Nat} {v : V} (h : i < σ.length) : (σ.set i (some v))[i]? = some (some v) := by rw [List.getElem?_set_self h]
/-- a shared slot is stored -/
theorem M_set_sh {i : Nat} {v : V} {d : D} (hi : i ∉ S.ow) {a : Addr} (m : EC.M S (σ.set i (some v)) (st ρ i (some d)) a) : EC.M S σ ρ a := by
  obtain ⟨j, h1, h2, h3⟩ := m
  have ne : j ≠ i := fun e => hi (e ▸ h1)
  rw [gt_st_ne ρ i j _ ne] at h2
  rw [List.getElem?_set_ne ne.symm] at h3
  exact ⟨j, h1, h2, h3⟩
theorem ER.set_sh {i : Nat} {v : V} {d : D} (E : ER K S C σ H ρ) (hi : i ∉ S.ow) (hf : i ∉ S.fx) (hr : Rep K S.T (C.O S σ ρ) H v d) : ER K S C (σ.set i (some v)) H (st ρ i (some d)) := by
  have ra : RA (C.O S σ ρ) H (C.O S (σ.set i (some v)) (st ρ i (some d))) H := sub_ra fun a z => z.imp id (M_set_sh hi)
  refine ⟨by rw [st_length, List.length_set]; exact E.len, fun j d' hj hd => ?_, fun j d' hj hd => ?_, fun j k a hj hk h1 h2 h3 h4 => ?_, fun j hj => ?_, E.fr, E.dom, E.lks, E.o0⟩
  · rcases gt_st_some hd with ⟨rfl, hl, rfl⟩ | ⟨ne, hd⟩
    · exact ⟨v, set_at (E.len ▸ hl), hr.adv ra⟩
    · obtain ⟨w, h1, h2⟩ := E.sh j d' hj hd
      exact ⟨w, by rw [List.getElem?_set_ne ne.symm]; exact h1, h2.adv ra⟩
  · have ne : j ≠ i := fun e => hi (e ▸ hj)
    rw [gt_st_ne ρ i j _ ne] at hd
    obtain ⟨a, h1, h2, h3⟩ := E.own j d' hj hd
    exact ⟨a, by rw [List.getElem?_set_ne ne.symm]; exact h1, h2.adv ra rfl, h3⟩
  · have n1 : j ≠ i := fun e => hi (e ▸ hj)
    have n2 : k ≠ i := fun e => hi (e ▸ hk)
    rw [gt_st_ne ρ i _ _ n1] at h1
    rw [gt_st_ne ρ i _ _ n2] at h2
    rw [List.getElem?_set_ne n1.symm] at h3
    rw [List.getElem?_set_ne n2.symm] at h4
    exact E.dis j k a hj hk h1 h2 h3 h4
  · have ne : j ≠ i := fun e => hf (e ▸ hj)
    rw [List.getElem?_set_ne ne.symm]
    exact E.fx j hj
theorem adv_set_sh {m : MO} {i : Nat} {v : V} {d : D} (hi : i ∉ S.ow) {H0 : Hp} (A : Adv m H0 (C.mo S σ ρ) H) : Adv m H0 (C.mo S (σ.set i (some v)) (st ρ i (some d))) H :=
  A.trans ⟨fun _ _ _ h => h, fun a z => .inl (M_set_sh hi z), fun a z => .inl (z.imp id (M_set_sh hi)), fun _ h => h⟩
/-- an owned slot takes a new object -/
theorem M_set_ow {i : Nat} {p : Addr} {d : D} {a : Addr} (m : EC.M S (σ.set i (some (.ref p))) (st ρ i (some d)) a) : EC.M S σ ρ a ∨ a = p := by
  obtain ⟨j, h1, h2, h3⟩ := m
  by_cases e : j = i
  · subst e
    have hl : j < σ.length := by
      have z : j < (σ.set j (some (V.ref p))).length := by
        rcases Nat.lt_or_ge j (σ.set j (some (V.ref p))).length with h | h
        · exact h
        · rw [List.getElem?_eq_none h] at h3; cases h3
      rwa [List.length_set] at z
    rw [set_at hl] at h3
    right
    have := Option.some.inj (Option.some.inj h3)
    exact (V.ref.inj this).symm
  · rw [gt_st_ne ρ i j _ e] at h2
    rw [List.getElem?_set_ne (Ne.symm e)] at h3
    exact .inl ⟨j, h1, h2, h3⟩
theorem ER.set_ow {i : Nat} {p : Addr} {ps : List Addr} {d : D} (E : ER K S (C.pl (p :: ps)) σ H ρ) (hi : i ∈ S.ow) (hf : i ∉ S.fx) (np : p ∉ ps) (h0 : C.H0 p = none) (no : ¬ C.O S σ ρ p) (how : OwnAt K S.T ((C.pl (p :: ps)).O S σ ρ) H p d) :
    ER K S (C.pl ps) (σ.set i (some (.ref p))) H (st ρ i (some d)) := by
  have os : ∀ a, (C.pl ps).O S (σ.set i (some (.ref p))) (st ρ i (some d)) a → (C.pl (p :: ps)).O S σ ρ a := fun a z => by
    rcases z with z | z
    · exact .inl (z.imp id fun m => List.mem_cons_of_mem _ m)
    · rcases M_set_ow z with z | rfl
      · exact .inr z
      · exact .inl (.inr List.mem_cons_self)
  have ra := sub_ra (H := H) os
  have nO0 : ¬ (C.pl ps).O0 p := fun z => z.elim (fun z => no (.inl z)) np
  refine ⟨by rw [st_length, List.length_set]; exact E.len, fun j d' hj hd => ?_, fun j d' hj hd => ?_, fun j k a hj hk h1 h2 h3 h4 => ?_, fun j hj => ?_, E.fr, E.dom, E.lks, fun a h => E.o0 a (h.imp id fun m => List.mem_cons_of_mem _ m)⟩
  · have ne : j ≠ i := fun e => hj (e ▸ hi)
    rw [gt_st_ne ρ i j _ ne] at hd
    obtain ⟨w, h1, h2⟩ := E.sh j d' hj hd
    exact ⟨w, by rw [List.getElem?_set_ne ne.symm]; exact h1, h2.adv ra⟩
  · rcases gt_st_some hd with ⟨rfl, hl, rfl⟩ | ⟨ne, hd⟩
    · exact ⟨p, set_at (E.len ▸ hl), how.adv ra rfl, fun _ => ⟨h0, nO0⟩, .inr ⟨h0, nO0⟩⟩
    · obtain ⟨a, h1, h2, h3, h4⟩ := E.own j d' hj hd
      have lift : ¬ (C.pl (p :: ps)).O0 a → ¬ (C.pl ps).O0 a := fun n z => n (z.imp id fun m => List.mem_cons_of_mem _ m)
      exact ⟨a, by rw [List.getElem?_set_ne ne.symm]; exact h1, h2.adv ra rfl, fun q => ⟨(h3 q).1, lift (h3 q).2⟩, h4.imp id fun q => ⟨q.1, lift q.2⟩⟩
  · by_cases n1 : j = i
    · by_cases n2 : k = i
      · rw [n1, n2]
      · subst n1
        have hl : j < σ.length := E.len ▸ (gt_st_live h1).elim (fun z => z.2) fun z => absurd rfl z.1
        rw [set_at hl] at h3
        obtain rfl : p = a := V.ref.inj (Option.some.inj (Option.some.inj h3))
        rw [gt_st_ne ρ j _ _ n2] at h2
        rw [List.getElem?_set_ne (Ne.symm n2)] at h4
        exact absurd (.inr ⟨k, hk, h2, h4⟩) no
    · by_cases n2 : k = i
      · subst n2
        have hl : k < σ.length := E.len ▸ (gt_st_live h2).elim (fun z => z.2) fun z => absurd rfl z.1
        rw [set_at hl] at h4
        obtain rfl : p = a := V.ref.inj (Option.some.inj (Option.some.inj h4))
        rw [gt_st_ne ρ k _ _ n1] at h1
        rw [List.getElem?_set_ne (Ne.symm n1)] at h3
        exact absurd (.inr ⟨j, hj, h1, h3⟩) no
      · rw [gt_st_ne ρ i _ _ n1] at h1
        rw [gt_st_ne ρ i _ _ n2] at h2
        rw [List.getElem?_set_ne (Ne.symm n1)] at h3
        rw [List.getElem?_set_ne (Ne.symm n2)] at h4
        exact E.dis j k a hj hk h1 h2 h3 h4
  · have ne : j ≠ i := fun e => hf (e ▸ hj)
    rw [List.getElem?_set_ne ne.symm]
    exact E.fx j hj
theorem adv_set_ow {m : MO} {i : Nat} {p : Addr} {ps : List Addr} {d : D} {H0 : Hp} (A : Adv m H0 ((C.pl (p :: ps)).mo S σ ρ) H) (hp : H0 p = none) : Adv m H0 ((C.pl ps).mo S (σ.set i (some (.ref p))) (st ρ i (some d))) H where
  st := A.st
  mn := fun a z => by
    rcases M_set_ow z with z | rfl
    · exact A.mn a z
    · exact .inr hp
  on := fun a z => by
    rcases z with z | z
    · exact A.on a (.inl (z.imp id fun m => List.mem_cons_of_mem _ m))
    · rcases M_set_ow z with z | rfl
      · exact A.on a (.inr z)
      · exact .inr hp
  dm := A.dm
/-- what an owned slot holds is changed -/
theorem M_mut {i : Nat} {d0 d : D} (hd : gt ρ i = some d0) {a : Addr} : EC.M S σ (st ρ i (some d)) a ↔ EC.M S σ ρ a := by
  constructor
  · rintro ⟨j, h1, h2, h3⟩
    rcases gt_st_live h2 with ⟨rfl, _⟩ | ⟨_, q⟩
    · exact ⟨j, h1, some_ne hd, h3⟩
    · exact ⟨j, h1, q, h3⟩
  · rintro ⟨j, h1, h2, h3⟩
    by_cases e : j = i
    · subst e
      exact ⟨j, h1, by rw [gt_st_same ρ j _ (gt_lt hd)]; exact some_ne rfl, h3⟩
    · exact ⟨j, h1, by rw [gt_st_ne ρ i j _ e]; exact h2, h3⟩
theorem ER.mut {i : Nat} {d0 d : D} {a : Addr} {u : HO} (E : ER K S C σ H ρ) (hi : i ∈ S.ow) (hd : gt ρ i = some d0) (hs : σ[i]? = some (some (.ref a))) (mu : Mut (some u)) (how : OwnAt K S.T (C.O S σ ρ) (upd H a u) a d) : ER K S C σ (upd H a u) (st ρ i (some d)) := by
  have oa : C.O S σ ρ a := .inr ⟨i, hi, some_ne hd, hs⟩
  have oeq : ∀ b, C.O S σ (st ρ i (some d)) b → C.O S σ ρ b := fun b z => z.imp id (M_mut hd).mp
  have ra : RA (C.O S σ ρ) H (C.O S σ (st ρ i (some d))) (upd H a u) := by
    refine ⟨fun b w n h => ?_, fun b z => .inl (oeq b z), fun b h => ?_⟩
    · have ne : b ≠ a := fun e => n (e ▸ oa)
      rcases h with h | ⟨o, h⟩
      · exact .inl (by rw [upd_ne ne]; exact h)
      · exact .inr ⟨o, by rw [upd_ne ne]; exact h⟩
    · by_cases e : b = a
      · subst e; rw [upd_same]; exact some_ne rfl
      · rw [upd_ne e]; exact h
  obtain ⟨b, e1, o1, f1, f2⟩ := E.own i d0 hi hd
  rw [hs] at e1
  obtain rfl : a = b := V.ref.inj (Option.some.inj (Option.some.inj e1))
  obtain ⟨w0, hw0, mw0⟩ := o1.mut
  refine ⟨by rw [st_length]; exact E.len, fun j d' hj hd' => ?_, fun j d' hj hd' => ?_, fun j k b hj hk h1 h2 h3 h4 => ?_, E.fx, fun b w h => ?_, fun b h => ?_, fun b o w h => ?_, fun b h => ?_⟩
  · have ne : j ≠ i := fun e => hj (e ▸ hi)
    rw [gt_st_ne ρ i j _ ne] at hd'
    obtain ⟨v, h1, h2⟩ := E.sh j d' hj hd'
    exact ⟨v, h1, h2.adv ra⟩
  · rcases gt_st_some hd' with ⟨rfl, hl, rfl⟩ | ⟨ne, hd'⟩
    · exact ⟨a, hs, how.adv (sub_ra oeq) rfl, f1, f2⟩
    · obtain ⟨b, h1, h2, h3⟩ := E.own j d' hj hd'
      have nb : b ≠ a := fun e => ne (E.dis j i a hj hi (some_ne hd') (some_ne hd) (e ▸ h1) hs)
      exact ⟨b, h1, h2.adv ra (upd_ne nb), h3⟩
  · have lv : ∀ {k}, gt (st ρ i (some d)) k ≠ none → gt ρ k ≠ none := fun {k} h => (gt_st_live h).elim (fun z => z.1 ▸ some_ne hd) fun z => z.2
    exact E.dis j k b hj hk (lv h1) (lv h2) h3 h4
  · by_cases e : b = a
    · subst e
      rcases f2 with f2 | f2
      · exact .inl f2
      · rw [f2.1] at h; cases h
    · rw [upd_ne e]; exact E.fr b w h
  · by_cases e : b = a
    · subst e; rw [upd_same]; exact some_ne rfl
    · rw [upd_ne e]; exact E.dom b h
  · have hb := E.lks b o w h
    have ne : b ≠ a := fun e => by
      subst e
      rw [hw0] at hb
      cases hb.1
      exact mw0
    exact ⟨by rw [upd_ne ne]; exact hb.1, hb.2⟩
  · by_cases e : b = a
    · subst e; exact ⟨u, .inl upd_same, mu⟩
    · obtain ⟨w, h1, h2⟩ := E.o0 b h
      refine ⟨w, ?_, h2⟩
      rcases h1 with h1 | ⟨o, h1⟩
      · exact .inl (by rw [upd_ne e]; exact h1)
      · exact .inr ⟨o, by rw [upd_ne e]; exact h1⟩
theorem adv_mut {i : Nat} {d0 d : D} {a : Addr} {u : HO} (hi : i ∈ S.ow) (hd : gt ρ i = some d0) (hs : σ[i]? = some (some (.ref a))) : Adv (C.mo S σ ρ) H (C.mo S σ (st ρ i (some d))) (upd H a u) where
  st := fun b w n h => by
    have ne : b ≠ a := fun e => n (by subst e; exact ⟨i, hi, some_ne hd, hs⟩)
    rw [upd_ne ne]; exact h
  mn := fun b z => .inl ((M_mut hd).mp z)
  on := fun b z => .inl (z.imp id (M_mut hd).mp)
  dm := fun b h => by
    by_cases e : b = a
    · subst e; rw [upd_same]; exact some_ne rfl
    · rw [upd_ne e]; exact h
/-- what a slot owned is let go: it will not change any more -/
theorem ER.move {i : Nat} {d : D} {a : Addr} (E : ER K S C σ H ρ) (hi : i ∈ S.ow) (hf : i ∉ S.fx) (hd : gt ρ i = some d) (hs : σ[i]? = some (some (.ref a))) : ER K S C σ H (st ρ i none) ∧ Rep K S.T (C.O S σ (st ρ i none)) H (.ref a) d := by
  refine ⟨E.weak (st_length _ _ _) (kill_le i), ?_⟩
  obtain ⟨b, e1, o1, f1, f2⟩ := E.own i d hi hd
  rw [hs] at e1
  obtain rfl : a = b := V.ref.inj (Option.some.inj (Option.some.inj e1))
  refine (o1.adv (sub_ra fun b => O_weak (kill_le i)) rfl).rep fun z => ?_
  rcases z with z | ⟨j, h1, h2, h3⟩
  · exact (f1 hf).2 z
  · by_cases e : j = i
    · subst e; rw [gt_st_none] at h2; exact h2 rfl
    · rw [gt_st_ne ρ i j _ e] at h2
      exact e (E.dis j i a h1 hi h2 (some_ne hd) h3 hs)
end

section
variable {X : Cx} {S : ES} {W : WX} {pos : Pos}
/-- a place given away -/
def eMv (i : Nat) (f : SE) : SE := fun ρ => f ρ >>= fun r => match r.1 with
  | .val d => .ok (.val d, r.2)
  | .plc j => if j = i then ofOpt (gt r.2 i) >>= fun d => .ok (.val d, st r.2 i none) else .stuck
theorem ev_mv {e : Expr} {f : SE} {i : Nat} (hf : i ∉ S.fx) (h : EvE X S W e f) : EvE X S W e (eMv i f) := by
  obtain ⟨t, p, q⟩ := h
  refine ⟨t, p, fun C σ H ρ Q E w => ?_⟩
  refine q C σ H ρ _ E ((Wp.bind w).mono (fun _ _ h => h) fun r1 _ w1 v H1 E1 A1 R1 => ?_)
  obtain ⟨x, ρ1⟩ := r1
  cases x with
  | val d => exact w1 v H1 E1 A1 R1
  | plc j =>
    have w1 : Wp (if j = i then ofOpt (gt ρ1 i) >>= fun d => (Res.ok (DV.val d, st ρ1 i none) : Res (DV × Env)) else .stuck) _ _ := w1
    split at w1
    · rename_i e
      subst e
      obtain ⟨d, ed, w2⟩ := opt_wp w1
      obtain ⟨hi, hs⟩ : j ∈ S.ow ∧ σ[j]? = some (some v) := R1
      obtain ⟨a, e1, _⟩ := E1.own j d hi ed
      rw [hs] at e1
      obtain rfl : v = .ref a := Option.some.inj (Option.some.inj e1)
      obtain ⟨E2, R2⟩ := E1.move hi hf ed hs
      exact w2 _ H1 E2 (A1.trans (adv_weak (kill_le j))) R2
    · exact w1.elim

/-! ### statements -/
variable {stm : Stmt} {rest : List Stmt} {f g : SS} {e : Expr} {fe : SE}
def bNil : SS := fun ρ => .ok (.nx, ρ)
def bCons (f g : SS) : SS := fun ρ => f ρ >>= fun r => match r.1 with
  | .nx => g r.2
  | fl => .ok (fl, r.2)
theorem eb_nil : EvB X S W [] bNil := ⟨_, pss_nil, fun C σ H ρ D E w => w σ H E (.refl _ _)⟩
theorem eb_cons (h1 : EvS X S W stm f) (h2 : EvB X S W rest g) : EvB X S W (stm :: rest) (bCons f g) := by
  obtain ⟨t, p, q⟩ := h1
  obtain ⟨u, p2, q2⟩ := h2
  refine ⟨_, pss_cons p p2, fun C σ H ρ D E w => ?_⟩
  refine q C σ H ρ _ E ((Wp.bind w).mono (fun _ _ h => h) fun r1 _ w1 σ1 H1 E1 A1 => ?_)
  obtain ⟨fl, ρ1⟩ := r1
  cases fl with
  | nx => exact q2 C σ1 H1 ρ1 D E1 ((show Wp (g ρ1) _ _ from w1).mono (fun _ _ h => h) fun r2 _ w2 σ2 H2 E2 A2 => w2 σ2 H2 E2 (A1.trans A2))
  | brk => exact w1 σ1 H1 E1 A1
  | cont => exact w1 σ1 H1 E1 A1
  | ret d => exact w1 σ1 H1 E1 A1
def valOf : DV → Option D
  | .val d => some d
  | .plc _ => none
theorem RV.val {C : EC} {σ : St} {H : Hp} {ρ : Env} {v : V} {x : DV} {d : D} (h : RV X.K S C σ H ρ v x) (e : valOf x = some d) : Rep X.K S.T (C.O S σ ρ) H v d := by
  cases x with
  | val d' => cases e; exact h
  | plc i => cases e
def sRet (f : SE) : SS := fun ρ => f ρ >>= fun r => ofOpt (valOf r.1) >>= fun d => .ok (.ret d, r.2)
theorem es_ret (h : EvE X S W e fe) : EvS X S W (.Return (some e) pos) (sRet fe) := by
  obtain ⟨t, p, q⟩ := h
  refine ⟨_, ps_ret p, fun C σ H ρ D E w => ?_⟩
  refine q C σ H ρ _ E ((Wp.bind w).mono (fun _ _ h => h) fun r1 _ w1 v H1 E1 A1 R1 => ?_)
  obtain ⟨d, ed, w2⟩ := opt_wp w1
  exact w2 σ H1 E1 A1 v (R1.val ed)
def sRetN : SS := fun ρ => .ok (.ret .non, ρ)
theorem es_retN : EvS X S W (.Return none pos) sRetN := ⟨_, ps_retN, fun C σ H ρ D E w => w σ H E (.refl _ _) .non .non⟩
def sExpr (f : SE) : SS := fun ρ => f ρ >>= fun r => .ok (.nx, r.2)
theorem es_expr (h : EvE X S W e fe) (hs : swapsWith e none pos.line X.env = pure false := by rfl) : EvS X S W (.Expr e pos) (sExpr fe) := by
  obtain ⟨t, p, q⟩ := h
  refine ⟨_, ps_expr p hs, fun C σ H ρ D E w => ?_⟩
  exact q C σ H ρ _ E ((Wp.bind w).mono (fun _ _ h => h) fun r1 _ w1 v H1 E1 A1 R1 => w1 σ H1 E1 A1)
theorem es_pass : EvS X S W (.Pass pos) bNil := ⟨_, ps_pass, fun C σ H ρ D E w => w σ H E (.refl _ _)⟩
def sBrk : SS := fun ρ => .ok (.brk, ρ)
def sCont : SS := fun ρ => .ok (.cont, ρ)
theorem es_brk : EvS X S W (.Break pos) sBrk := ⟨_, ps_break, fun C σ H ρ D E w => w σ H E (.refl _ _)⟩
theorem es_cont : EvS X S W (.Continue pos) sCont := ⟨_, ps_continue, fun C σ H ρ D E w => w σ H E (.refl _ _)⟩
def sIf (t : Env → Res (Bool × Env)) (f g : SS) : SS := fun ρ => t ρ >>= fun r => bif r.1 then f r.2 else g r.2
theorem es_if {c : Expr} {a b : List Stmt} {t} (hc : EvT X S W c t) (ha : EvB X S W a f) (hb : EvB X S W b g) : EvS X S W (.If c a b pos) (sIf t f g) := by
  obtain ⟨tc, pc, qc⟩ := hc
  obtain ⟨ta, pa, qa⟩ := ha
  obtain ⟨tb, pb, qb⟩ := hb
  refine ⟨_, ps_if pc pa pb, fun C σ H ρ D E w => ?_⟩
  refine qc C σ H ρ _ E ((Wp.bind w).mono (fun _ _ h => h) fun r1 _ w1 H1 E1 A1 => ?_)
  obtain ⟨k, ρ1⟩ := r1
  cases k with
  | true => exact qa C σ H1 ρ1 D E1 (w1.mono (fun _ _ h => h) fun r2 _ w2 σ2 H2 E2 A2 => w2 σ2 H2 E2 (A1.trans A2))
  | false => exact qb C σ H1 ρ1 D E1 (w1.mono (fun _ _ h => h) fun r2 _ w2 σ2 H2 E2 A2 => w2 σ2 H2 E2 (A1.trans A2))
/-- name = value, the name a shared slot -/
def sSet (i : Nat) (f : SE) : SS := fun ρ => f ρ >>= fun r => ofOpt (valOf r.1) >>= fun d => .ok (.nx, st r.2 i (some d))
theorem es_set {i : Nat} {x : Str} {pos' : Pos} (ho : i ∉ S.ow) (hfx : i ∉ S.fx) (hN : X.N.Nodup) (hi : X.N[i]? = some x) (hx : Loc X.env.scope x) (he : EvE X S W e fe) (hs : swapsWith e (some (.Name x pos')) pos.line X.env = pure false := by rfl)
    (hf : X.fn x = true ∨ X.env.scope.names.lookup x = some .local := by first | exact .inl rfl | exact .inr rfl | assumption) : EvS X S W (.Assign [.Name x pos'] e pos) (sSet i fe) := by
  obtain ⟨t, p, q⟩ := he
  refine ⟨_, ps_set hN hi hx p hs hf, fun C σ H ρ D E w => ?_⟩
  refine q C σ H ρ _ E ((Wp.bind w).mono (fun _ _ h => h) fun r1 _ w1 v H1 E1 A1 R1 => ?_)
  obtain ⟨d, ed, w2⟩ := opt_wp w1
  exact w2 _ H1 (E1.set_sh ho hfx (R1.val ed)) (adv_set_sh ho A1)
/-- name = a new object, the name an owned slot -/
def sSetF (i : Nat) (f : Env → Res (D × Env)) : SS := fun ρ => f ρ >>= fun r => .ok (.nx, st r.2 i (some r.1))
theorem es_setF {i : Nat} {x : Str} {pos' : Pos} {ff} (ho : i ∈ S.ow) (hfx : i ∉ S.fx) (hN : X.N.Nodup) (hi : X.N[i]? = some x) (hx : Loc X.env.scope x) (he : EvF X S W e ff) (hs : swapsWith e (some (.Name x pos')) pos.line X.env = pure false := by rfl)
    (hf : X.fn x = true ∨ X.env.scope.names.lookup x = some .local := by first | exact .inl rfl | exact .inr rfl | assumption) : EvS X S W (.Assign [.Name x pos'] e pos) (sSetF i ff) := by
  obtain ⟨t, p, q⟩ := he
  refine ⟨_, ps_set hN hi hx p hs hf, fun C σ H ρ D E w => ?_⟩
  refine q C σ H ρ _ E ((Wp.bind w).mono (fun _ _ h => h) fun r1 _ w1 p H1 h0 no E1 A1 how => ?_)
  have A2 : Adv (C.mo S σ ρ) H ((C.pl [p]).mo S σ r1.2) H1 := ⟨A1.st, A1.mn, fun a z => (O_plus.mp z).elim (A1.on a) fun e => .inr (e ▸ h0), A1.dm⟩
  have E2 := E1.set_ow (C := C) (ps := []) (d := r1.1) ho hfx (by simp) (E.h0 h0) no how
  have A3 := adv_set_ow (C := C) (ps := []) (i := i) (d := r1.1) A2 h0
  rw [EC.pl_nil] at E2 A3
  exact w1 _ H1 E2 A3

/-! ### targets -/
theorem wipe_set {σ : St} {i : Nat} {v : Option V} : ∀ {vs : List Nat}, i ∈ vs → wipe (σ.set i v) vs = wipe σ vs
  | [], h => absurd h (by simp)
  | j :: vs, h => by
    show (wipe (σ.set i v) vs).set j none = (wipe σ vs).set j none
    by_cases hv : i ∈ vs
    · rw [wipe_set hv]
    · have e : i = j := by
        rcases List.mem_cons.mp h with e | e
        · exact e
        · exact absurd e hv
      subst e
      have step : ∀ (ws : List Nat) (τ : St), i ∉ ws → wipe (τ.set i v) ws = (wipe τ ws).set i v := by
        intro ws
        induction ws with
        | nil => intro τ _; rfl
        | cons k ws ih =>
          intro τ hn
          have h1 : k ≠ i := fun e => hn (by rw [e]; exact List.mem_cons_self)
          have h2 : i ∉ ws := fun m => hn (List.mem_cons_of_mem _ m)
          show (wipe (τ.set i v) ws).set k none = ((wipe τ ws).set k none).set i v
          rw [ih τ h2, List.set_comm _ _ h1.symm]
      rw [step vs σ hv, List.set_set]
theorem eg_name {i : Nat} {x : Str} (ho : i ∉ S.ow) (hfx : i ∉ S.fx) (hN : X.N.Nodup) (hi : X.N[i]? = some x) (hx : Loc X.env.scope x) (hf : X.fn x = true ∨ X.env.scope.names.lookup x = some .local := by first | exact .inl rfl | exact .inr rfl | assumption) :
    EvG X S [i] (.Name x pos) (fun d ρ => .ok (st ρ i (some d))) :=
  ⟨_, pg_name hN hi hx hf, fun C σ H ρ v d Q E R w => w _ H (E.set_sh ho hfx R) (adv_set_sh ho (.refl _ _)) fun vs h => wipe_set (h i (List.mem_singleton.mpr rfl))⟩
def EvGs (X : Cx) (S : ES) (ts : List Nat) (tgs : List Expr) (g : List D → Env → Res Env) : Prop :=
  ∃ t : TGs, PGs X tgs t ∧ ∀ (C : EC) (σ : St) (H : Hp) (ρ : Env) (vs : List V) (ds : List D) (Q : St → Hp → Prop), ER X.K S C σ H ρ → Reps X.K S.T (C.O S σ ρ) H vs ds →
    Wp (g ds ρ) (fun _ _ => False) (fun ρ' => ∀ σ' H', ER X.K S C σ' H' ρ' → Adv (C.mo S σ ρ) H (C.mo S σ' ρ') H' → (∀ vs, (∀ i, i ∈ ts → i ∈ vs) → wipe σ' vs = wipe σ vs) → Q σ' H') → t vs σ H Q
def gsNil : List D → Env → Res Env := fun ds ρ => match ds with
  | [] => .ok ρ
  | _ => .stuck
def gsCons (g : D → Env → Res Env) (gs : List D → Env → Res Env) : List D → Env → Res Env := fun ds ρ => match ds with
  | [] => .stuck
  | d :: r => g d ρ >>= fun ρ1 => gs r ρ1
theorem egs_nil : EvGs X S [] [] gsNil := by
  refine ⟨_, pgs_nil, fun C σ H ρ vs ds Q E R w => ?_⟩
  cases ds with
  | nil => cases R; exact ⟨rfl, w σ H E (.refl _ _) fun _ _ => rfl⟩
  | cons d r => exact w.elim
theorem egs_cons {a : Expr} {as : List Expr} {t1 t2 : List Nat} {g : D → Env → Res Env} {gs : List D → Env → Res Env} (h1 : EvG X S t1 a g) (h2 : EvGs X S t2 as gs) (hs : (assignEach (a :: as) X.env).map (·.2) = assign a X.env :: (assignEach as X.env).map (·.2) := by rfl) : EvGs X S (t1 ++ t2) (a :: as) (gsCons g gs) := by
  obtain ⟨t, p, q⟩ := h1
  obtain ⟨u, p2, q2⟩ := h2
  refine ⟨_, pgs_cons p p2 hs, fun C σ H ρ vs ds Q E R w => ?_⟩
  cases ds with
  | nil => exact w.elim
  | cons d r =>
    cases R with
    | cons r1 r2 =>
      refine ⟨_, _, rfl, q C σ H ρ _ d _ E r1 ((Wp.bind (show Wp (g d ρ >>= fun ρ1 => gs r ρ1) _ _ from w)).mono (fun _ _ h => h) fun ρ1 _ w1 σ1 H1 E1 A1 z1 => ?_)⟩
      exact q2 C σ1 H1 ρ1 _ r Q E1 (r2.adv A1.ra) (w1.mono (fun _ _ h => h) fun ρ2 _ w2 σ2 H2 E2 A2 z2 => w2 σ2 H2 E2 (A1.trans A2) fun vs h => (z2 vs fun i m => h i (List.mem_append_right _ m)).trans (z1 vs fun i m => h i (List.mem_append_left _ m)))
def gTupD (n : Nat) (gs : List D → Env → Res Env) : D → Env → Res Env := fun d ρ => match d with
  | .tup ds => if ds.length = n then gs ds ρ else .stuck
  | _ => .stuck
theorem eg_tup {as : List Expr} {k n : Nat} {ts : List Nat} {gs : List D → Env → Res Env} (hc : X.calm = true) (h : EvGs X S ts as gs) (hn : (assignEach as X.env).length = n := by rfl) (hst : (assignEach as X.env).findIdx? (·.1) = none := by rfl) : EvG X S ts (.Tuple as k pos) (gTupD n gs) := by
  obtain ⟨t, p, q⟩ := h
  refine ⟨_, pg_tup hc p hn hst, fun C σ H ρ v d Q E R w => ?_⟩
  cases d with
  | tup ds =>
    have w' : Wp (if ds.length = n then gs ds ρ else .stuck) _ _ := w
    split at w'
    · rename_i hl
      cases R with
      | tup h1 h2 => exact ⟨_, _, rfl, h1.sq, h2.length.trans hl, q C σ H ρ _ ds Q E h2 w'⟩
    · exact w'.elim
  | _ => exact w.elim
/-- target = value -/
theorem Wp.noerr {α : Type} {r : Res α} {X : Nat → D → Prop} {Q : α → Prop} (h : Wp r X Q) (hn : ∀ c p, r ≠ .err c p) : Wp r (fun _ _ => False) Q := by
  cases r with
  | ok a => exact h
  | err c p => exact absurd rfl (hn c p)
  | stuck => exact h
def noErr {α : Type} : Res α → Res α
  | .err _ _ => .stuck
  | r => r
theorem noErr_wp {α β : Type} {r : Res α} {f : α → Res β} {X X' : Nat → D → Prop} {Q : β → Prop} (h : Wp (noErr r >>= f) X Q) : Wp r X' (fun a => Wp (f a) X Q) := by
  cases r with
  | ok a => exact h
  | err c p => exact h.elim
  | stuck => exact h.elim
def sAsgN (g : D → Env → Res Env) (f : SE) : SS := fun ρ => f ρ >>= fun r => ofOpt (valOf r.1) >>= fun d => noErr (g d r.2) >>= fun ρ' => .ok (.nx, ρ')
theorem es_asg {tg : Expr} {ts : List Nat} {g : D → Env → Res Env} (he : EvE X S W e fe) (hg : EvG X S ts tg g) (hs : swapsWithSole [tg] e pos.line X.env = pure false := by rfl) (hw : swappedStores [tg] e X.env = pure none := by rfl)
    (h1 : (assignEach [tg] X.env).map (·.2) = [assign tg X.env] := by rfl) : EvS X S W (.Assign [tg] e pos) (sAsgN g fe) := by
  obtain ⟨t, p, q⟩ := he
  obtain ⟨u, p2, q2⟩ := hg
  refine ⟨_, ps_asg p p2 hs hw h1, fun C σ H ρ D E w => ?_⟩
  refine q C σ H ρ _ E ((Wp.bind w).mono (fun _ _ h => h) fun r1 _ w1 v H1 E1 A1 R1 => ?_)
  obtain ⟨d, ed, w2⟩ := opt_wp w1
  exact q2 C σ H1 r1.2 v d _ E1 (R1.val ed) ((noErr_wp w2).mono (fun _ _ h => h) fun ρ' _ w3 σ2 H2 E2 A2 _ => w3 σ2 H2 E2 (A1.trans A2))
end
end EV

namespace EV
open PySem PySem.Spec L2 SX
open PyProof.Rows hiding St

section
variable {X : Cx} {S : ES} {W : WX} {pos : Pos} {e : Expr} {fe : SE} {tg : Expr} {g : D → Env → Res Env}

/-! ### for -/
def forL (g : D → Env → Res Env) (B : SS) : List D → SS
  | [], ρ => .ok (.nx, ρ)
  | d :: ds, ρ => noErr (g d ρ) >>= fun ρ1 => B ρ1 >>= fun r => match r.1 with
    | .nx => forL g B ds r.2
    | .cont => forL g B ds r.2
    | .brk => .ok (.nx, r.2)
    | .ret v => .ok (.ret v, r.2)
def sFor (fi : Env → Res (List D × Env)) (g : D → Env → Res Env) (B : SS) : SS := fun ρ => fi ρ >>= fun r => forL g B r.1 r.2
theorem drop_at {α : Type} {xs : List α} {i : Nat} (h : i < xs.length) : xs.drop i = xs[i] :: xs.drop (i + 1) := List.drop_eq_getElem_cons h
theorem es_for {iter : Expr} {ts : List Nat} {body : List Stmt} {fi : Env → Res (List D × Env)} {B : SS} (hp : PassesOwn (model X.prog X.w) X.A X.env X.xe) (hc : X.calm = true) (hi : EvI X S W tg iter fi) (hg : EvG X S ts tg g) (hb : EvB X S W body B)
    (hs : ∀ x, foldedSetIterable iter X.env x = pure x := by intro _; rfl) : EvS X S W (.For tg iter body [] pos) (sFor fi g B) := by
  obtain ⟨wi, pi, qi⟩ := hi
  obtain ⟨tt, pg, qg⟩ := hg
  obtain ⟨tb, pb, qb⟩ := hb
  refine ⟨_, ps_for hp hc pi pg pb hs, fun C σ H ρ D E w => ?_⟩
  refine qi C σ H ρ _ E ((Wp.bind w).mono (fun _ _ h => h) fun r1 _ w1 J H1 E1 A1 I1 => ?_)
  obtain ⟨xs, ρ1⟩ := r1
  refine ⟨fun i m σ' H' => m = xs.length - i ∧ i ≤ xs.length ∧ ∃ ρ', ER X.K S C σ' H' ρ' ∧ Adv (C.mo S σ ρ1) H1 (C.mo S σ' ρ') H' ∧
    Wp (forL g B (xs.drop i) ρ') (XOk X.K S W C) (fun r => ∀ σ2 H2, ER X.K S C σ2 H2 r.2 → Adv (C.mo S σ ρ) H (C.mo S σ2 r.2) H2 → EndOk X.K S C D r.1 r.2 σ2 H2), ⟨xs.length, rfl, Nat.zero_le _, ρ1, E1, .refl _ _, w1⟩, ?_⟩
  rintro i m σ' H' ⟨rfl, hi, ρ', E', A', w'⟩
  by_cases hlt : i < xs.length
  · refine .inr ⟨I1.go (C.mo S σ' ρ') H' i A'.ra hlt, fun σ2 H2 => ∃ ρ2, ER X.K S C σ2 H2 ρ2 ∧ Adv (C.mo S σ ρ1) H1 (C.mo S σ2 ρ2) H2 ∧
      Wp (forL g B (xs.drop (i + 1)) ρ2) (XOk X.K S W C) (fun r => ∀ σ2 H2, ER X.K S C σ2 H2 r.2 → Adv (C.mo S σ ρ) H (C.mo S σ2 r.2) H2 → EndOk X.K S C D r.1 r.2 σ2 H2), fun σ2 H2 ⟨ρ2, E2, A2, w2⟩ => ⟨xs.length - (i + 1), by omega, rfl, hlt, ρ2, E2, A2, w2⟩, fun x H2 y => ?_⟩
    rw [drop_at hlt] at w'
    obtain ⟨ex, rp⟩ := I1.yld C S σ' H' ρ' i x H2 xs[i] rfl E' A'.ra y (by simp [hlt])
    refine qg C σ' H2 ρ' x xs[i] _ (E'.ext ex) rp ((noErr_wp w').mono (fun _ _ h => h) fun ρ3 _ w3 σ3 H3 E3 A3 _ => ?_)
    have A3' := (A'.trans ex.adv).trans A3
    refine qb C σ3 H3 ρ3 _ E3 ((Wp.bind w3).mono (fun _ _ h => h) fun r4 _ w4 σ4 H4 E4 A4 => ?_)
    obtain ⟨fl, ρ4⟩ := r4
    cases fl with
    | nx => exact ⟨ρ4, E4, A3'.trans A4, w4⟩
    | cont => exact ⟨ρ4, E4, A3'.trans A4, w4⟩
    | brk => exact w4 σ4 H4 E4 ((A1.trans A3').trans A4)
    | ret d => exact w4 σ4 H4 E4 ((A1.trans A3').trans A4)
  · have ei : i = xs.length := by omega
    subst ei
    rw [List.drop_length] at w'
    exact .inl ⟨I1.stop (C.mo S σ' ρ') H' A'.ra, w' σ' H' E' (A1.trans A')⟩

/-! ### while -/
def whileL (t : Env → Res (Bool × Env)) (B : SS) : Nat → SS
  | 0, _ => .stuck
  | n + 1, ρ => t ρ >>= fun r => bif r.1 then (B r.2 >>= fun r2 => match r2.1 with
    | .nx => whileL t B n r2.2
    | .cont => whileL t B n r2.2
    | .brk => .ok (.nx, r2.2)
    | .ret v => .ok (.ret v, r2.2)) else .ok (.nx, r.2)
theorem es_while {c : Expr} {body : List Stmt} {t : Env → Res (Bool × Env)} {B : SS} (n : Nat) (hp : PassesOwn (model X.prog X.w) X.A X.env X.xe) (hc : EvT X S W c t) (hb : EvB X S W body B) : EvS X S W (.While c body [] pos) (whileL t B n) := by
  obtain ⟨tc, pc, qc⟩ := hc
  obtain ⟨tb, pb, qb⟩ := hb
  refine ⟨_, ps_while hp pc pb, fun C σ H ρ D E w => ?_⟩
  refine ⟨fun m σ' H' => ∃ ρ', ER X.K S C σ' H' ρ' ∧ Adv (C.mo S σ ρ) H (C.mo S σ' ρ') H' ∧ Wp (whileL t B m ρ') (XOk X.K S W C) (fun r => ∀ σ2 H2, ER X.K S C σ2 H2 r.2 → Adv (C.mo S σ ρ) H (C.mo S σ2 r.2) H2 → EndOk X.K S C D r.1 r.2 σ2 H2), ⟨n, ρ, E, .refl _ _, w⟩, ?_⟩
  rintro m σ' H' ⟨ρ', E', A', w'⟩
  cases m with
  | zero => exact w'.elim
  | succ m =>
    refine qc C σ' H' ρ' _ E' ((Wp.bind w').mono (fun _ _ h => h) fun r1 _ w1 H1 E1 A1 => ?_)
    obtain ⟨k, ρ1⟩ := r1
    cases k with
    | false => exact w1 σ' H1 E1 (A'.trans A1)
    | true =>
      refine ⟨fun σ2 H2 => ∃ ρ2, ER X.K S C σ2 H2 ρ2 ∧ Adv (C.mo S σ ρ) H (C.mo S σ2 ρ2) H2 ∧ Wp (whileL t B m ρ2) (XOk X.K S W C) (fun r => ∀ σ2 H2, ER X.K S C σ2 H2 r.2 → Adv (C.mo S σ ρ) H (C.mo S σ2 r.2) H2 → EndOk X.K S C D r.1 r.2 σ2 H2),
        fun σ2 H2 h => ⟨m, Nat.lt_succ_self m, h⟩, ?_⟩
      refine qb C σ' H1 ρ1 _ E1 ((Wp.bind (show Wp (B ρ1 >>= _) _ _ from w1)).mono (fun _ _ h => h) fun r4 _ w4 σ4 H4 E4 A4 => ?_)
      obtain ⟨fl, ρ4⟩ := r4
      cases fl with
      | nx => exact ⟨ρ4, E4, (A'.trans A1).trans A4, w4⟩
      | cont => exact ⟨ρ4, E4, (A'.trans A1).trans A4, w4⟩
      | brk => exact w4 σ4 H4 E4 ((A'.trans A1).trans A4)
      | ret d => exact w4 σ4 H4 E4 ((A'.trans A1).trans A4)

/-! ### what is walked -/
theorem Reps.get {K : PySem.W.Frag} {T : Nat → Option Addr} {O : Addr → Prop} {H : Hp} : ∀ {vs : List V} {ds : List D} {i : Nat} {d : D}, Reps K T O H vs ds → ds[i]? = some d → ∃ v, vs[i]? = some v ∧ Rep K T O H v d
  | _, _, _, _, .nil, e => by simp at e
  | _, _, 0, _, .cons h _, e => by
    simp at e
    subst e
    exact ⟨_, rfl, h⟩
  | _, _, i + 1, d, .cons _ h, e => by
    obtain ⟨v, h1, h2⟩ := Reps.get (i := i) (d := d) h (by simpa using e)
    exact ⟨v, by simpa using h1, h2⟩
theorem Reps.get' {K : PySem.W.Frag} {T : Nat → Option Addr} {O : Addr → Prop} {H : Hp} {vs : List V} {ds : List D} {i : Nat} {v : V} {d : D} (h : Reps K T O H vs ds) (e : vs[i]? = some v) (e2 : ds[i]? = some d) : Rep K T O H v d := by
  obtain ⟨w, h1, h2⟩ := h.get e2
  rw [e] at h1; cases h1
  exact h2
/-- a walk's frame: what is walked does not change -/
theorem rd_adv {O O' : Addr → Prop} {H H' : Hp} {a : Addr} {u : HO} (x : RA O H O' H') (n : ¬ O a) (h : Rd H a u) : ¬ O' a ∧ Rd H' a u := ⟨fun z => (x.on a z).elim n (rd_some h), x.st a _ n h⟩
theorem itd_list {m : MO} {H : Hp} {a : Addr} {vs : List V} {ds : List D} (n : ¬ m.O a) (h : Rd H a (.lst vs)) (hr : Reps X.K S.T m.O H vs ds) : ItD X.K S (Itl X.K a) ds m H where
  go := fun m1 H1 i ra hi => ⟨vs, vs[i]'(by rw [hr.length]; exact hi), (.inl (rd_adv ra n h).2), by simp⟩
  stop := fun m1 H1 ra => ⟨vs, (.inl (rd_adv ra n h).2), Nat.le_of_eq hr.length⟩
  yld := fun C S' σ H1 ρ i x H2 d hT E ra y e => by
    obtain ⟨rfl, y2⟩ := y
    rw [hT]
    exact ⟨Ex.refl _, (hr.adv ra).get' (y2 vs (.inl (rd_adv ra n h).2)) e⟩
theorem itd_tup {m : MO} {H : Hp} {a : Addr} {vs : List V} {ds : List D} (h : ShT X.K m.O H a vs) (hr : Reps X.K S.T m.O H vs ds) : ItD X.K S (Itt X.K a) ds m H where
  go := fun m1 H1 i ra hi => ⟨vs, vs[i]'(by rw [hr.length]; exact hi), (h.adv ra).sq, by simp⟩
  stop := fun m1 H1 ra => ⟨vs, (h.adv ra).sq, Nat.le_of_eq hr.length⟩
  yld := fun C S' σ H1 ρ i x H2 d hT E ra y e => by
    obtain ⟨rfl, y2⟩ := y
    rw [hT]
    exact ⟨Ex.refl _, (hr.adv ra).get' (y2 vs (h.adv ra).sq) e⟩
def signs (s : List Nat) : List D := s.map fun c => .str [c]
theorem itd_str {m : MO} {H : Hp} {s : List Nat} (hs : okS s) : ItD X.K S (Its (SX.S s)) (signs s) m H where
  go := fun m1 H1 i ra hi => by
    show i < (SX.S s).cps.size
    simpa [signs] using hi
  stop := fun m1 H1 ra => by
    show (SX.S s).cps.size ≤ (signs s).length
    simp [signs]
  yld := fun C S' σ H1 ρ i x H2 d hT E ra y e => by
    obtain ⟨rfl, c, hc, rfl⟩ := y
    refine ⟨Ex.refl _, ?_⟩
    have hc' : s[i]? = some c := by simpa using hc
    unfold signs at e
    rw [List.getElem?_map, hc'] at e
    cases e
    exact .str [c] fun b hb => by
      obtain rfl : b = c := by simpa using hb
      exact hs b (List.mem_of_getElem? hc')
theorem pi_or {w w' : TI} (h : PI X tg e w) (h' : PI X tg e w') : PI X tg e (fun σ H R => w σ H R ∨ w' σ H R) :=
  ⟨fun pins s σ H R I q => q.elim (h.run pins s σ H R I) (h'.run pins s σ H R I)⟩
/-- a list, a tuple, a text that nobody changes -/
def seqOf : DV → Option (List D)
  | .val (.lst ds) => some ds
  | .val (.tup ds) => some ds
  | .val (.str s) => some (signs s)
  | _ => none
def iSeq (f : SE) : Env → Res (List D × Env) := fun ρ => f ρ >>= fun r => ofOpt (seqOf r.1) >>= fun ds => .ok (ds, r.2)
theorem ei_seq (h : EvE X S W e fe) : EvI X S W tg e (iSeq fe) := by
  obtain ⟨t, p, q⟩ := h
  -- the three readings of one evaluation
  refine ⟨fun σ H R => ∃ C ρ, ER X.K S C σ H ρ ∧ Wp (iSeq fe ρ) (XOk X.K S W C) (fun r => ∀ J H', ER X.K S C σ H' r.2 → Adv (C.mo S σ ρ) H (C.mo S σ r.2) H' → ItD X.K S J r.1 (C.mo S σ r.2) H' → R J H'), ⟨fun pins s σ H R I hq => ?_⟩, fun C σ H ρ R E w => ⟨C, ρ, E, w⟩⟩
  obtain ⟨C, ρ, E, w⟩ := hq
  refine thn (p.run pins s σ H (fun x H1 => ∃ C ρ r1, ER X.K S C σ H1 r1.2 ∧ RV X.K S C σ H1 r1.2 x r1.1 ∧ Wp (ofOpt (seqOf r1.1) >>= fun ds => .ok (ds, r1.2)) (XOk X.K S W C) (fun r => ∀ J H', ER X.K S C σ H' r.2 → Adv (C.mo S σ ρ) H (C.mo S σ r.2) H' → ItD X.K S J r.1 (C.mo S σ r.2) H' → R J H') ∧ Adv (C.mo S σ ρ) H (C.mo S σ r1.2) H1) I
    (q C σ H ρ _ E ((Wp.bind w).mono (fun _ _ h => h) fun r1 _ w1 v H1 E1 A1 R1 => ⟨C, ρ, r1, E1, R1, w1, A1⟩))) fun v s1 ⟨x, H1, I1, rx, C, ρ, r1, E1, R1, w1, A1⟩ => ?_
  obtain ⟨ds, eds, w2⟩ := opt_wp w1
  obtain ⟨dv, ρ1⟩ := r1
  cases dv with
  | plc i => cases eds
  | val d =>
    cases d with
    | lst xs =>
      cases eds
      cases (show Rep X.K S.T (C.O S σ ρ1) H1 x (.lst ds) from R1) with
      | lst h0 h1 h2 =>
        cases rx
        obtain ⟨its, rv, pl, hz⟩ := I1.list (.inl h1)
        refine wpAny_pyIter_list pl.isList ?_
        refine ⟨s1.heap.objs.size, [s1.heap.objs.size], _, _, H1, rfl, I1.kept (t' := s1.toks) fun b o e => Heap.get?_push_of_some _ e, turn_list _ _, ⟨_, Heap.get?_push_size _ rfl, rfl, rfl⟩, fun b hb => ?_, w2 _ H1 E1 A1 (itd_list h0 h1 h2)⟩
        have eb : b = s1.heap.objs.size := by simpa using hb
        subst eb
        exact I1.fpOk (Nat.le_refl _) (I1.hok.fresh (Nat.le_refl _))
    | tup xs =>
      cases eds
      cases (show Rep X.K S.T (C.O S σ ρ1) H1 x (.tup ds) from R1) with
      | tup h1 h2 =>
        cases rx
        obtain ⟨its, rv, pl, hz⟩ := I1.tuple h1.sq
        refine wpAny_pyIter_tuple (show s1.heap.IsTuple _ its.toArray from pl) ?_
        refine ⟨s1.heap.objs.size, [s1.heap.objs.size], _, _, H1, rfl, I1.kept (t' := s1.toks) fun b o e => Heap.get?_push_of_some _ e, turn_tuple _ _, ⟨_, Heap.get?_push_size _ rfl, rfl, rfl⟩, fun b hb => ?_, w2 _ H1 E1 A1 (itd_tup h1 h2)⟩
        have eb : b = s1.heap.objs.size := by simpa using hb
        subst eb
        exact I1.fpOk (Nat.le_refl _) (I1.hok.fresh (Nat.le_refl _))
    | str z =>
      cases eds
      have hR : Rep X.K S.T (C.O S σ ρ1) H1 x (.str z) := R1
      have hz : okS z := RT.okS (.inl hR)
      have hx : x = .str (SX.S z) := by
        cases hR
        rfl
      subst hx
      obtain ⟨t', rfl⟩ := rx
      cases ha : (SX.S z).cps.all (· < 128)
      · exact wpAny_pyIter_wide ha (pi_one (tk := s1.toks) I1 _ (turn_str _ (SX.S z) t' "str_iterator" (.inr rfl)) ⟨_, Heap.get?_push_size _ rfl, rfl, rfl⟩ (w2 _ H1 E1 A1 (itd_str hz)))
      · exact wpAny_pyIter_ascii ha (pi_one (tk := s1.toks) I1 _ (turn_str _ (SX.S z) t' "str_ascii_iterator" (.inl rfl)) ⟨_, Heap.get?_push_size _ rfl, rfl, rfl⟩ (w2 _ H1 E1 A1 (itd_str hz)))
    | _ => cases eds

/-! ### range -/
def rng (lo c : Int) (n : Nat) : List D := (List.range n).map fun (i : Nat) => .int (lo + (i : Int) * c)
theorem rng_length {lo c : Int} {n : Nat} : (rng lo c n).length = n := by simp [rng]
theorem itd_rng {m : MO} {H : Hp} {lo : Int} {n : Nat} : ItD X.K S (Itr lo n) (rng lo 1 n) m H where
  go := fun m1 H1 i ra hi => by rw [rng_length] at hi; exact hi
  stop := fun m1 H1 ra => by rw [rng_length]; exact Nat.le_refl _
  yld := fun C S' σ H1 ρ i x H2 d hT E ra y e => by
    obtain ⟨rfl, rfl⟩ := y
    refine ⟨Ex.refl _, ?_⟩
    have hi : i < n := by
      have := (List.getElem?_eq_some_iff.mp e).1
      rwa [rng_length] at this
    have ed : d = .int (lo + (i : Int) * 1) := by
      simp [rng, hi] at e
      simpa using e.symm
    subst ed
    rw [Int.mul_one]
    exact .int _
theorem itd_rngC {m : MO} {H : Hp} {lo c : Int} {n : Nat} : ItD X.K S (Itc lo c n) (rng lo c n) m H where
  go := fun m1 H1 i ra hi => by rw [rng_length] at hi; exact hi
  stop := fun m1 H1 ra => by rw [rng_length]; exact Nat.le_refl _
  yld := fun C S' σ H1 ρ i x H2 d hT E ra y e => by
    obtain ⟨rfl, rfl⟩ := y
    refine ⟨Ex.refl _, ?_⟩
    have hi : i < n := by
      have := (List.getElem?_eq_some_iff.mp e).1
      rwa [rng_length] at this
    have ed : d = .int (lo + (i : Int) * c) := by
      simp [rng, hi] at e
      simpa using e.symm
    subst ed
    exact .int _
def rin (j : Int) : Bool := decide (-1000000000 ≤ j) && decide (j < 1000000000)
theorem rin_of {j : Int} (h : rin j = true) : -(2 ^ 62) ≤ j ∧ j < 2 ^ 62 := by
  unfold rin at h
  rw [Bool.and_eq_true, decide_eq_true_eq, decide_eq_true_eq] at h
  omega
def rng1 : List D → Option (List D)
  | [.int j] => bif rin j then some (rng 0 1 j.toNat) else none
  | _ => none
def rng2 : List D → Option (List D)
  | [.int i, .int j] => bif rin i && rin j then some (rng i 1 (j - i).toNat) else none
  | _ => none
/-- by a step; the number of turns is told for steps of -1 and for others by the model's own reckoning -/
def rng3 : List D → Option (List D)
  | [.int i, .int j, .int c] => if c ≠ 0 ∧ c.natAbs < 1073741824 ∧ Builtin.Range.small i j c = true ∧ 0 ≤ Builtin.Range.rangeSize i j c then some (rng i c (Builtin.Range.rangeSize i j c).toNat) else none
  | _ => none
def iRng (k : List D → Option (List D)) (fs : Env → Res (List DV × Env)) : Env → Res (List D × Env) := fun ρ => fs ρ >>= fun r => ofOpt (vals r.1) >>= fun ds => ofOpt (k ds) >>= fun xs => .ok (xs, r.2)
theorem Reps.ints1 {K : PySem.W.Frag} {T : Nat → Option Addr} {O : Addr → Prop} {H : Hp} {vs : List V} {i : Int} (h : Reps K T O H vs [.int i]) : vs = [.int i] := by
  cases h with
  | cons h1 h2 => cases h1; cases h2; rfl
theorem Reps.ints2 {K : PySem.W.Frag} {T : Nat → Option Addr} {O : Addr → Prop} {H : Hp} {vs : List V} {i j : Int} (h : Reps K T O H vs [.int i, .int j]) : vs = [.int i, .int j] := by
  cases h with
  | cons h1 h2 => cases h1; rw [h2.ints1]
theorem Reps.ints3 {K : PySem.W.Frag} {T : Nat → Option Addr} {O : Addr → Prop} {H : Hp} {vs : List V} {i j c : Int} (h : Reps K T O H vs [.int i, .int j, .int c]) : vs = [.int i, .int j, .int c] := by
  cases h with
  | cons h1 h2 => cases h1; rw [h2.ints2]
theorem rng1_of {ds xs : List D} (h : rng1 ds = some xs) : ∃ j, ds = [.int j] ∧ -(2 ^ 62) ≤ j ∧ j < 2 ^ 62 ∧ xs = rng 0 1 j.toNat := by
  unfold rng1 at h
  split at h
  · rename_i j
    cases hb : rin j with
    | true =>
      rw [hb] at h
      cases h
      exact ⟨_, rfl, (rin_of hb).1, (rin_of hb).2, rfl⟩
    | false => rw [hb] at h; cases h
  · cases h
theorem rng2_of {ds xs : List D} (h : rng2 ds = some xs) : ∃ i j, ds = [.int i, .int j] ∧ (-(2 ^ 62) ≤ i ∧ i < 2 ^ 62 ∧ -(2 ^ 62) ≤ j ∧ j < 2 ^ 62) ∧ xs = rng i 1 (j - i).toNat := by
  unfold rng2 at h
  split at h
  · rename_i i j
    cases hb : (rin i && rin j) with
    | true =>
      rw [hb] at h
      cases h
      rw [Bool.and_eq_true] at hb
      exact ⟨_, _, rfl, ⟨(rin_of hb.1).1, (rin_of hb.1).2, (rin_of hb.2).1, (rin_of hb.2).2⟩, rfl⟩
    | false => rw [hb] at h; cases h
  · cases h
theorem rng3_of {ds xs : List D} (h : rng3 ds = some xs) : ∃ i j c, ds = [.int i, .int j, .int c] ∧ (c ≠ 0 ∧ c.natAbs < 1073741824 ∧ Builtin.Range.small i j c = true ∧ 0 ≤ Builtin.Range.rangeSize i j c) ∧ xs = rng i c (Builtin.Range.rangeSize i j c).toNat := by
  unfold rng3 at h
  split at h
  · split at h
    · rename_i hb
      cases h
      exact ⟨_, _, _, rfl, hb, rfl⟩
    · cases h
  · cases h
theorem ei_range1 {a : Expr} {p : Pos} {fs} (hg : Gl X "range") (hm : X.mg "range" = none) (ha : EvA X S W [a] fs) (hs : starEach [a] X.env = [(false, eval a X.env)] := by rfl) : EvI X S W tg (.Call (.Name "range" p) [a] [] pos) (iRng rng1 fs) := by
  obtain ⟨t, pa, q⟩ := ha
  refine ⟨_, pi_range1 hg hm pa hs, fun C σ H ρ R E w => ?_⟩
  refine q C σ H ρ _ E ((Wp.bind w).mono (fun _ _ h => h) fun r1 _ w1 vs H1 E1 A1 R1 => ?_)
  obtain ⟨ds, eds, w2⟩ := opt_wp w1
  obtain ⟨xs, exs, w3⟩ := opt_wp w2
  have rs := R1.reps eds
  obtain ⟨j, rfl, h1, h2, rfl⟩ := rng1_of exs
  exact ⟨j, rs.ints1, h1, h2, w3 _ H1 E1 A1 itd_rng⟩
theorem ei_range2 {a b : Expr} {p : Pos} {fs} (hg : Gl X "range") (hm : X.mg "range" = none) (ha : EvA X S W [a, b] fs) (hs : starEach [a, b] X.env = [(false, eval a X.env), (false, eval b X.env)] := by rfl) (hs2 : starEach [b] X.env = [(false, eval b X.env)] := by rfl) : EvI X S W tg (.Call (.Name "range" p) [a, b] [] pos) (iRng rng2 fs) := by
  obtain ⟨t, pa, q⟩ := ha
  refine ⟨_, pi_range2 hg hm pa hs hs2, fun C σ H ρ R E w => ?_⟩
  refine q C σ H ρ _ E ((Wp.bind w).mono (fun _ _ h => h) fun r1 _ w1 vs H1 E1 A1 R1 => ?_)
  obtain ⟨ds, eds, w2⟩ := opt_wp w1
  obtain ⟨xs, exs, w3⟩ := opt_wp w2
  have rs := R1.reps eds
  obtain ⟨i, j, rfl, hb, rfl⟩ := rng2_of exs
  exact ⟨i, j, rs.ints2, hb, w3 _ H1 E1 A1 itd_rng⟩
theorem ei_range3 {a b c : Expr} {p : Pos} {fs} (hg : Gl X "range") (hm : X.mg "range" = none) (ha : EvA X S W [a, b, c] fs) (hs : starEach [a, b, c] X.env = [(false, eval a X.env), (false, eval b X.env), (false, eval c X.env)] := by rfl)
    (hs2 : starEach [b, c] X.env = [(false, eval b X.env), (false, eval c X.env)] := by rfl) (hs3 : starEach [c] X.env = [(false, eval c X.env)] := by rfl) : EvI X S W tg (.Call (.Name "range" p) [a, b, c] [] pos) (iRng rng3 fs) := by
  obtain ⟨t, pa, q⟩ := ha
  refine ⟨_, pi_range3 hg hm pa (by first | exact hs | (rw [hs, hs2])) (by first | rfl | (rw [hs2]; rfl)), fun C σ H ρ R E w => ?_⟩
  refine q C σ H ρ _ E ((Wp.bind w).mono (fun _ _ h => h) fun r1 _ w1 vs H1 E1 A1 R1 => ?_)
  obtain ⟨ds, eds, w2⟩ := opt_wp w1
  obtain ⟨xs, exs, w3⟩ := opt_wp w2
  have rs := R1.reps eds
  obtain ⟨i, j, k, rfl, hb, rfl⟩ := rng3_of exs
  refine ⟨i, j, k, _, rs.ints3, ⟨hb.1, hb.2.1, hb.2.2.1, ?_⟩, w3 _ H1 E1 A1 itd_rngC⟩
  exact (Int.toNat_of_nonneg hb.2.2.2).symm
end
end EV

namespace EV
open PySem PySem.Spec L2 SX
open PyProof.Rows hiding St

/-! ### readings that hang on the plain function alone -/
section
variable (K : PySem.W.Frag) (S : ES) (W : WX)
def canE (f : SE) : TE := fun σ H Q => ∃ C ρ, ER K S C σ H ρ ∧ Wp (f ρ) (XOk K S W C) (fun r => ∀ v H', ER K S C σ H' r.2 → Adv (C.mo S σ ρ) H (C.mo S σ r.2) H' → RV K S C σ H' r.2 v r.1 → Q v H')
def canT (f : Env → Res (Bool × Env)) : TT := fun σ H Q => ∃ C ρ, ER K S C σ H ρ ∧ Wp (f ρ) (XOk K S W C) (fun r => ∀ H', ER K S C σ H' r.2 → Adv (C.mo S σ ρ) H (C.mo S σ r.2) H' → Q r.1 H')
def canG (ts : List Nat) (g : D → Env → Res Env) : TG := fun v σ H Q => ∃ C ρ d, ER K S C σ H ρ ∧ Rep K S.T (C.O S σ ρ) H v d ∧
  Wp (g d ρ) (fun _ _ => False) (fun ρ' => ∀ σ' H', ER K S C σ' H' ρ' → Adv (C.mo S σ ρ) H (C.mo S σ' ρ') H' → (∀ vs, (∀ i, i ∈ ts → i ∈ vs) → wipe σ' vs = wipe σ vs) → Q σ' H')
def canI (f : Env → Res (List D × Env)) : TI := fun σ H R => ∃ C ρ, ER K S C σ H ρ ∧ Wp (f ρ) (XOk K S W C) (fun r => ∀ J H', ER K S C σ H' r.2 → Adv (C.mo S σ ρ) H (C.mo S σ r.2) H' → ItD K S J r.1 (C.mo S σ r.2) H' → R J H')
end
section
variable {X : Cx} {S : ES} {W : WX} {e : Expr}
theorem EvE.can {f : SE} (h : EvE X S W e f) : PE X e (canE X.K S W f) := by
  obtain ⟨t, p, q⟩ := h
  exact ⟨fun pins s σ H Q I ⟨C, ρ, E, w⟩ => p.run pins s σ H Q I (q C σ H ρ Q E w)⟩
theorem EvT.can {f : Env → Res (Bool × Env)} (h : EvT X S W e f) : PT X e (canT X.K S W f) := by
  obtain ⟨t, p, q⟩ := h
  exact ⟨fun pins s σ H Q I ⟨C, ρ, E, w⟩ => p.run pins s σ H Q I (q C σ H ρ Q E w)⟩
theorem EvG.can {ts : List Nat} {g : D → Env → Res Env} (h : EvG X S ts e g) : PG X e (canG X.K S ts g) := by
  obtain ⟨t, p, q⟩ := h
  exact ⟨fun pins s σ H v u Q I r ⟨C, ρ, d, E, rp, w⟩ => p.run pins s σ H v u Q I r (q C σ H ρ v d Q E rp w)⟩
theorem EvI.can {tg : Expr} {f : Env → Res (List D × Env)} (h : EvI X S W tg e f) : PI X tg e (canI X.K S W f) := by
  obtain ⟨t, p, q⟩ := h
  exact ⟨fun pins s σ H R I ⟨C, ρ, E, w⟩ => p.run pins s σ H R I (q C σ H ρ R E w)⟩
end

/-! ### a block's own names forgotten, and back -/
def wipeE (ρ : Env) : List Nat → Env
  | [] => ρ
  | i :: vs => st (wipeE ρ vs) i none
def restE (ρ1 ρ2 : Env) : List Nat → Env
  | [] => ρ2
  | i :: vs => st (restE ρ1 ρ2 vs) i (gt ρ1 i)
theorem wipeE_length (ρ : Env) : ∀ vs, (wipeE ρ vs).length = ρ.length
  | [] => rfl
  | i :: vs => by
    show (st (wipeE ρ vs) i none).length = _
    rw [st_length, wipeE_length ρ vs]
theorem restE_length (ρ1 ρ2 : Env) : ∀ vs, (restE ρ1 ρ2 vs).length = ρ2.length
  | [] => rfl
  | i :: vs => by
    show (st (restE ρ1 ρ2 vs) i _).length = _
    rw [st_length, restE_length ρ1 ρ2 vs]
theorem gt_wipeE (ρ : Env) (j : Nat) : ∀ vs, gt (wipeE ρ vs) j = if j ∈ vs then none else gt ρ j
  | [] => by simp [wipeE]
  | i :: vs => by
    show gt (st (wipeE ρ vs) i none) j = _
    by_cases e : j = i
    · subst e
      rw [gt_st_none]
      simp
    · rw [gt_st_ne _ _ _ _ e, gt_wipeE ρ j vs]
      simp [e]
theorem gt_none_of_len {ρ : Env} {i : Nat} (h : ρ.length ≤ i) : gt ρ i = none := by
  cases q : gt ρ i with
  | none => rfl
  | some d => exact absurd (gt_lt q) (Nat.not_lt.mpr h)
theorem gt_restE {ρ1 ρ2 : Env} (hl : ρ2.length = ρ1.length) (j : Nat) : ∀ vs, gt (restE ρ1 ρ2 vs) j = if j ∈ vs then gt ρ1 j else gt ρ2 j
  | [] => by simp [restE]
  | i :: vs => by
    show gt (st (restE ρ1 ρ2 vs) i (gt ρ1 i)) j = _
    by_cases e : j = i
    · subst e
      rw [if_pos (by simp)]
      by_cases hj : j < (restE ρ1 ρ2 vs).length
      · rw [gt_st_same _ _ _ hj]
      · rw [gt_none_of_len (by rw [st_length]; exact Nat.not_lt.mp hj)]
        rw [restE_length, hl] at hj
        exact (gt_none_of_len (Nat.not_lt.mp hj)).symm
    · rw [gt_st_ne _ _ _ _ e, gt_restE hl j vs]
      simp [e]
section
variable {K : PySem.W.Frag} {S : ES} {C : EC} {σ : St} {H H' : Hp} {ρ ρ' : Env} {vs : List Nat}
theorem M_wipe (ho : ∀ v, v ∈ vs → v ∉ S.ow) {a : Addr} : EC.M S (wipe σ vs) (wipeE ρ vs) a ↔ EC.M S σ ρ a := by
  constructor
  · rintro ⟨i, h1, h2, h3⟩
    have ni : i ∉ vs := fun m => ho i m h1
    rw [gt_wipeE, if_neg ni] at h2
    rw [wipe_out ni] at h3
    exact ⟨i, h1, h2, h3⟩
  · rintro ⟨i, h1, h2, h3⟩
    have ni : i ∉ vs := fun m => ho i m h1
    exact ⟨i, h1, by rw [gt_wipeE, if_neg ni]; exact h2, by rw [wipe_out ni]; exact h3⟩
theorem mo_wipe (ho : ∀ v, v ∈ vs → v ∉ S.ow) : C.mo S (wipe σ vs) (wipeE ρ vs) = C.mo S σ ρ := by
  have e1 : EC.M S (wipe σ vs) (wipeE ρ vs) = EC.M S σ ρ := funext fun a => propext (M_wipe ho)
  have e2 : C.O S (wipe σ vs) (wipeE ρ vs) = C.O S σ ρ := funext fun a => by unfold EC.O; rw [e1]
  show MO.mk _ _ _ = MO.mk _ _ _
  congr 1
theorem O_wipe (ho : ∀ v, v ∈ vs → v ∉ S.ow) : C.O S (wipe σ vs) (wipeE ρ vs) = C.O S σ ρ := congrArg MO.O (mo_wipe ho)
theorem ER.wiped (E : ER K S C σ H ρ) (ho : ∀ v, v ∈ vs → v ∉ S.ow) (hf : ∀ v, v ∈ vs → v ∉ S.fx) : ER K S C (wipe σ vs) H (wipeE ρ vs) where
  len := by rw [wipeE_length, wipe_length]; exact E.len
  sh := fun i d hi hd => by
    rw [gt_wipeE] at hd
    split at hd
    · cases hd
    · rename_i ni
      obtain ⟨v, h1, h2⟩ := E.sh i d hi hd
      rw [O_wipe ho]
      exact ⟨v, by rw [wipe_out ni]; exact h1, h2⟩
  own := fun i d hi hd => by
    have ni : i ∉ vs := fun m => ho i m hi
    rw [gt_wipeE, if_neg ni] at hd
    obtain ⟨a, h1, h2⟩ := E.own i d hi hd
    rw [O_wipe ho]
    exact ⟨a, by rw [wipe_out ni]; exact h1, h2⟩
  dis := fun i j a hi hj h1 h2 h3 h4 => by
    have ni : i ∉ vs := fun m => ho i m hi
    have nj : j ∉ vs := fun m => ho j m hj
    rw [gt_wipeE, if_neg ni] at h1
    rw [gt_wipeE, if_neg nj] at h2
    rw [wipe_out ni] at h3
    rw [wipe_out nj] at h4
    exact E.dis i j a hi hj h1 h2 h3 h4
  fx := fun i hi => by
    have ni : i ∉ vs := fun m => hf i m hi
    rw [wipe_out ni]
    exact E.fx i hi
  fr := E.fr
  dom := E.dom
  lks := E.lks
  o0 := E.o0
theorem M_rest {ρ1 : Env} (hl : ρ'.length = ρ1.length) (ho : ∀ v, v ∈ vs → v ∉ S.ow) {a : Addr} : EC.M S σ (restE ρ1 ρ' vs) a ↔ EC.M S (wipe σ vs) (wipeE ρ' vs) a := by
  rw [M_wipe ho]
  constructor
  · rintro ⟨i, h1, h2, h3⟩
    have ni : i ∉ vs := fun m => ho i m h1
    rw [gt_restE hl, if_neg ni] at h2
    exact ⟨i, h1, h2, h3⟩
  · rintro ⟨i, h1, h2, h3⟩
    have ni : i ∉ vs := fun m => ho i m h1
    exact ⟨i, h1, by rw [gt_restE hl, if_neg ni]; exact h2, h3⟩
theorem mo_rest {ρ1 : Env} (hl : ρ'.length = ρ1.length) (ho : ∀ v, v ∈ vs → v ∉ S.ow) : C.mo S σ (restE ρ1 ρ' vs) = C.mo S (wipe σ vs) (wipeE ρ' vs) := by
  have e1 : EC.M S σ (restE ρ1 ρ' vs) = EC.M S (wipe σ vs) (wipeE ρ' vs) := funext fun a => propext (M_rest hl ho)
  have e2 : C.O S σ (restE ρ1 ρ' vs) = C.O S (wipe σ vs) (wipeE ρ' vs) := funext fun a => by unfold EC.O; rw [e1]
  show MO.mk _ _ _ = MO.mk _ _ _
  congr 1
/-- behind a block: its own names hold again what they held -/
theorem ER.rest {C1 : EC} {ρ1 : Env} {H1 : Hp} (E : ER K S C (wipe σ vs) H (wipeE ρ' vs)) (E1 : ER K S C1 σ H1 ρ1) (ra : RA (C1.O S σ ρ1) H1 (C.O S (wipe σ vs) (wipeE ρ' vs)) H) (ho : ∀ v, v ∈ vs → v ∉ S.ow) (hfx : ∀ i, i ∈ S.fx → σ[i]? = some (some (C.fv i))) : ER K S C σ H (restE ρ1 ρ' vs) := by
  have hl : ρ'.length = ρ1.length := by
    have h1 := E.len
    rw [wipeE_length, wipe_length] at h1
    exact h1.trans E1.len.symm
  have eo : C.O S σ (restE ρ1 ρ' vs) = C.O S (wipe σ vs) (wipeE ρ' vs) := congrArg MO.O (mo_rest hl ho)
  refine ⟨by rw [restE_length, hl]; exact E1.len, fun i d hi hd => ?_, fun i d hi hd => ?_, fun i j a hi hj h1 h2 h3 h4 => ?_, hfx, E.fr, E.dom, E.lks, E.o0⟩
  · rw [gt_restE hl] at hd
    rw [eo]
    split at hd
    · obtain ⟨v, h1, h2⟩ := E1.sh i d hi hd
      exact ⟨v, h1, h2.adv ra⟩
    · rename_i ni
      obtain ⟨v, h1, h2⟩ := E.sh i d hi (by rw [gt_wipeE, if_neg ni]; exact hd)
      rw [wipe_out ni] at h1
      exact ⟨v, h1, h2⟩
  · have ni : i ∉ vs := fun m => ho i m hi
    rw [gt_restE hl, if_neg ni] at hd
    obtain ⟨a, h1, h2⟩ := E.own i d hi (by rw [gt_wipeE, if_neg ni]; exact hd)
    rw [wipe_out ni] at h1
    rw [eo]
    exact ⟨a, h1, h2⟩
  · have ni : i ∉ vs := fun m => ho i m hi
    have nj : j ∉ vs := fun m => ho j m hj
    rw [gt_restE hl, if_neg ni] at h1
    rw [gt_restE hl, if_neg nj] at h2
    exact E.dis i j a hi hj (by rw [gt_wipeE, if_neg ni]; exact h1) (by rw [gt_wipeE, if_neg nj]; exact h2) (by rw [wipe_out ni]; exact h3) (by rw [wipe_out nj]; exact h4)
end

/-! ### list comprehensions -/
abbrev WF : WX := fun _ _ _ _ => False
def lcL (vs : List Nat) (g : D → Env → Res Env) (cnd : Env → Res (Bool × Env)) (elt : SE) : List D → Env → Res (List D × Env)
  | [], ρ => .ok ([], ρ)
  | d :: ds, ρ => noErr (g d (wipeE ρ vs)) >>= fun ρ1 => noErr (cnd ρ1) >>= fun r => bif r.1 then noErr (elt r.2) >>= fun r2 => ofOpt (valOf r2.1) >>= fun x => lcL vs g cnd elt ds r2.2 >>= fun r3 => .ok (x :: r3.1, r3.2) else lcL vs g cnd elt ds r.2
def fLc (vs : List Nat) (fi : Env → Res (List D × Env)) (g : D → Env → Res Env) (cnd : Env → Res (Bool × Env)) (elt : SE) : Env → Res (D × Env) :=
  fun ρ => fi ρ >>= fun r => ofOpt (lim r.1.length) >>= fun _ => lcL vs g cnd elt r.1 r.2 >>= fun r2 => .ok (.lst r2.1, restE r.2 r2.2 vs)
theorem Reps.snoc {K : PySem.W.Frag} {T : Nat → Option Addr} {O : Addr → Prop} {H : Hp} {v : V} {d : D} : ∀ {vs : List V} {ds : List D}, Reps K T O H vs ds → Rep K T O H v d → Reps K T O H (vs ++ [v]) (ds ++ [d])
  | _, _, .nil, h => .cons h .nil
  | _, _, .cons a b, h => .cons a (Reps.snoc b h)
theorem Adv.mutNew {m m' : MO} {H H' : Hp} (A : Adv m H m' H') {p : Addr} {u : HO} (hp : H p = none) (hp' : H' p ≠ none) : Adv m H m' (upd H' p u) where
  st := fun a w n h => by rw [upd_ne (ne_of_none h hp)]; exact A.st a w n h
  mn := A.mn
  on := A.on
  dm := fun a h => by
    by_cases e : a = p
    · subst e; rw [upd_same]; exact some_ne rfl
    · rw [upd_ne e]; exact A.dm a h
/-- an object of ours that no name holds is changed -/
theorem ER.mutNew {K : PySem.W.Frag} {S : ES} {C : EC} {σ : St} {H : Hp} {ρ : Env} {p : Addr} {u w : HO} (E : ER K S (C.pl [p]) σ H ρ) (h0 : C.H0 p = none) (nm : ¬ EC.M S σ ρ p) (hp : H p = some w) (mw : Mut (some w)) (mu : Mut (some u)) : ER K S (C.pl [p]) σ (upd H p u) ρ := by
  have op : (C.pl [p]).O S σ ρ p := .inl (.inr (List.mem_singleton.mpr rfl))
  have ra : RA ((C.pl [p]).O S σ ρ) H ((C.pl [p]).O S σ ρ) (upd H p u) := by
    refine ⟨fun b v n h => ?_, fun b z => .inl z, fun b h => ?_⟩
    · have ne : b ≠ p := fun e => n (e ▸ op)
      rcases h with h | ⟨o, h⟩
      · exact .inl (by rw [upd_ne ne]; exact h)
      · exact .inr ⟨o, by rw [upd_ne ne]; exact h⟩
    · by_cases e : b = p
      · subst e; rw [upd_same]; exact some_ne rfl
      · rw [upd_ne e]; exact h
  refine ⟨E.len, fun i d hi hd => let ⟨v, h1, h2⟩ := E.sh i d hi hd; ⟨v, h1, h2.adv ra⟩, fun i d hi hd => ?_, E.dis, E.fx, fun b v h => ?_, fun b h => ra.dm b (E.dom b h), fun b o v h => ?_, fun b h => ?_⟩
  · obtain ⟨a, h1, h2, h3⟩ := E.own i d hi hd
    have ne : a ≠ p := fun e => nm ⟨i, hi, some_ne hd, e ▸ h1⟩
    exact ⟨a, h1, h2.adv ra (upd_ne ne), h3⟩
  · have ne : b ≠ p := fun e => by rw [e] at h; rw [show (C.pl [p]).H0 p = C.H0 p from rfl, h0] at h; cases h
    rw [upd_ne ne]; exact E.fr b v h
  · have hb := E.lks b o v h
    have ne : b ≠ p := fun e => by
      rw [e, hp] at hb
      cases hb.1
      exact mw
    exact ⟨by rw [upd_ne ne]; exact hb.1, hb.2⟩
  · by_cases e : b = p
    · subst e; exact ⟨u, .inl upd_same, mu⟩
    · obtain ⟨v, h1, h2⟩ := E.o0 b h
      refine ⟨v, ?_, h2⟩
      rcases h1 with h1 | ⟨o, h1⟩
      · exact .inl (by rw [upd_ne e]; exact h1)
      · exact .inr ⟨o, by rw [upd_ne e]; exact h1⟩

section
variable {X : Cx} {S : ES} {W : WX} {pos : Pos}
/-- the reading of a comprehension, from its parts' -/
theorem lc_can {fi : Env → Res (List D × Env)} {ts : List Nat} {g : D → Env → Res Env} {cnd : Env → Res (Bool × Env)} {elt : SE} {vs : List Nat} {wi : TI} {tt : TT} (ho : ∀ v, v ∈ vs → v ∉ S.ow) (hf : ∀ v, v ∈ vs → v ∉ S.fx) (hts : ∀ i, i ∈ ts → i ∈ vs)
    (qi : ∀ (C : EC) (σ : St) (H : Hp) (ρ : Env) (R : It → Hp → Prop), ER X.K S C σ H ρ → Wp (fi ρ) (XOk X.K S W C) (fun r => ∀ J H', ER X.K S C σ H' r.2 → Adv (C.mo S σ ρ) H (C.mo S σ r.2) H' → ItD X.K S J r.1 (C.mo S σ r.2) H' → R J H') → wi σ H R)
    (qt : ∀ (C : EC) (σ : St) (H : Hp) (ρ : Env) (Q : Bool → Hp → Prop), ER X.K S C σ H ρ → Wp (cnd ρ) (XOk X.K S WF C) (fun r => ∀ H', ER X.K S C σ H' r.2 → Adv (C.mo S σ ρ) H (C.mo S σ r.2) H' → Q r.1 H') → tt σ H Q)
    (C : EC) (σ : St) (H : Hp) (ρ : Env) (Q : VK) (E : ER X.K S C σ H ρ)
    (w : Wp (fLc vs fi g cnd elt ρ) (XOk X.K S W C) (fun r => ∀ p H', H p = none → ¬ C.O S σ r.2 p → ER X.K S (C.pl [p]) σ H' r.2 → Adv (C.mo S σ ρ) H (C.mo S σ r.2) H' → OwnAt X.K S.T ((C.pl [p]).O S σ r.2) H' p r.1 → Q (.ref p) H')) :
    tLc wi (canG X.K S ts g) tt (canE X.K S WF elt) vs σ H Q := by
  refine qi C σ H ρ _ E ((Wp.bind w).mono (fun _ _ h => h) fun r1 _ w1 J H1 E1 A1 I1 => ?_)
  obtain ⟨xs, ρ1⟩ := r1
  obtain ⟨u, eu, w2⟩ := opt_wp w1
  have hz : xs.length ≤ sizeLine := lim_ok eu
  intro L hL
  -- what is true ahead of each turn
  let Pv : Nat → Env → List V → List D → Hp → Prop := fun i ρ' acc ds H' => ER X.K S (C.pl [L]) (wipe σ vs) H' (wipeE ρ' vs) ∧ Adv (C.mo S σ ρ1) H1 ((C.pl [L]).mo S (wipe σ vs) (wipeE ρ' vs)) H' ∧
    H' L = some (.lst acc) ∧ Reps X.K S.T ((C.pl [L]).O S (wipe σ vs) (wipeE ρ' vs)) H' acc ds ∧ acc.length ≤ i ∧ ¬ EC.M S (wipe σ vs) (wipeE ρ' vs) L ∧
    Wp (lcL vs g cnd elt (xs.drop i) ρ') (XOk X.K S W C) (fun r => ∀ p H2, H p = none → ¬ C.O S σ (restE ρ1 r.2 vs) p → ER X.K S (C.pl [p]) σ H2 (restE ρ1 r.2 vs) → Adv (C.mo S σ ρ) H (C.mo S σ (restE ρ1 r.2 vs)) H2 → OwnAt X.K S.T ((C.pl [p]).O S σ (restE ρ1 r.2 vs)) H2 p (.lst (ds ++ r.1)) → Q (.ref p) H2)
  have hC0 : C.H0 L = none := E1.h0 hL
  have nO : ¬ C.O S σ ρ1 L := OH.fresh E1.omut hL
  have nM : ¬ EC.M S σ ρ1 L := fun z => nO (.inr z)
  refine ⟨fun i m H' => m = xs.length - i ∧ i ≤ xs.length ∧ ∃ ρ' acc ds, Pv i ρ' acc ds H', ⟨xs.length, rfl, Nat.zero_le _, ρ1, [], [], ?_⟩, ?_⟩
  · have x : Ex H1 (upd H1 L (.lst [])) := Ex.new hL
    refine ⟨(E1.alloc (u := .lst []) hL trivial).wiped ho hf, ?_, upd_same, .nil, Nat.le_refl _, fun z => nM ((M_wipe ho).mp z), ?_⟩
    · rw [mo_wipe ho]
      exact adv_plus hL x
    · refine (Wp.bind w2).mono (fun _ _ h => h) fun r _ h => ?_
      rw [List.nil_append]
      exact h
  rintro i m H' ⟨rfl, hi, ρ', acc, ds, E', A', hacc, rs, hle, nm, w'⟩
  by_cases hlt : i < xs.length
  · refine .inr ⟨I1.go _ H' i A'.ra hlt, fun H2 => ∃ ρ2 acc2 ds2, Pv (i + 1) ρ2 acc2 ds2 H2, fun H2 h => ⟨xs.length - (i + 1), by omega, rfl, hlt, h⟩, fun x H2 y => ?_⟩
    rw [drop_at hlt] at w'
    obtain ⟨ex, rp⟩ := I1.yld (C.pl [L]) S (wipe σ vs) H' (wipeE ρ' vs) i x H2 xs[i] rfl E' A'.ra y (by simp [hlt])
    have w' : Wp (noErr (g xs[i] (wipeE ρ' vs)) >>= fun ρ1 => noErr (cnd ρ1) >>= fun r => bif r.1 then noErr (elt r.2) >>= fun r2 => ofOpt (valOf r2.1) >>= fun x => lcL vs g cnd elt (xs.drop (i + 1)) r2.2 >>= fun r3 => (.ok (x :: r3.1, r3.2) : Res (List D × Env)) else lcL vs g cnd elt (xs.drop (i + 1)) r.2) _ _ := w'
    refine ⟨C.pl [L], wipeE ρ' vs, xs[i], E'.ext ex, rp, (noErr_wp w').mono (fun _ _ h => h) fun ρ3 _ w3 σ3 H3 E3 A3 z3 => ⟨?_, ?_⟩⟩
    · rw [z3 vs hts]
      have idem : ∀ ws : List Nat, (∀ v, v ∈ ws → v ∈ vs) → wipe (wipe σ vs) ws = wipe σ vs := by
        intro ws
        induction ws with
        | nil => intro _; rfl
        | cons k ws ih =>
          intro hk
          show (wipe (wipe σ vs) ws).set k none = wipe σ vs
          rw [ih fun v m => hk v (List.mem_cons_of_mem _ m)]
          have at_k : ∀ us : List Nat, k ∈ us → (wipe σ us).set k none = wipe σ us := by
            intro us
            induction us with
            | nil => intro m; simp at m
            | cons j us ih2 =>
              intro m
              show ((wipe σ us).set j none).set k none = (wipe σ us).set j none
              by_cases e : k = j
              · subst e; rw [List.set_set]
              · rw [List.set_comm _ _ (Ne.symm e), ih2 ((List.mem_cons.mp m).resolve_left e)]
          exact at_k vs (hk k List.mem_cons_self)
      exact idem vs fun _ m => m
    · have hwz : wipe σ3 vs = wipe σ vs := by
        rw [z3 vs hts]
        have idem : ∀ ws : List Nat, (∀ v, v ∈ ws → v ∈ vs) → wipe (wipe σ vs) ws = wipe σ vs := by
          intro ws
          induction ws with
          | nil => intro _; rfl
          | cons k ws ih =>
            intro hk
            show (wipe (wipe σ vs) ws).set k none = wipe σ vs
            rw [ih fun v m => hk v (List.mem_cons_of_mem _ m)]
            have at_k : ∀ us : List Nat, k ∈ us → (wipe σ us).set k none = wipe σ us := by
              intro us
              induction us with
              | nil => intro m; simp at m
              | cons j us ih2 =>
                intro m
                show ((wipe σ us).set j none).set k none = (wipe σ us).set j none
                by_cases e : k = j
                · subst e; rw [List.set_set]
                · rw [List.set_comm _ _ (Ne.symm e), ih2 ((List.mem_cons.mp m).resolve_left e)]
            exact at_k vs (hk k List.mem_cons_self)
        exact idem vs fun _ m => m
      have A3' := (A'.trans ex.adv).trans A3
      have hL2 : H2 L = some (.lst acc) := ex L _ hacc
      have hL3 : H3 L = some (.lst acc) := A3.st L _ nm hL2
      have nm3 : ¬ EC.M S σ3 ρ3 L := fun z => (A3.mn L z).elim nm fun e => by rw [hL2] at e; cases e
      have rs3 := (rs.adv ex.ra).adv A3.ra
      -- the next turn, from any later moment of this one
      have next : ∀ (ρ4 : Env) (H4 : Hp) (acc4 : List V) (ds4 : List D), ER X.K S (C.pl [L]) σ3 H4 ρ4 → Adv (C.mo S σ ρ1) H1 ((C.pl [L]).mo S σ3 ρ4) H4 → H4 L = some (.lst acc4) → Reps X.K S.T ((C.pl [L]).O S σ3 ρ4) H4 acc4 ds4 → acc4.length ≤ i + 1 → ¬ EC.M S σ3 ρ4 L →
          Wp (lcL vs g cnd elt (xs.drop (i + 1)) ρ4) (XOk X.K S W C) (fun r => ∀ p H2, H p = none → ¬ C.O S σ (restE ρ1 r.2 vs) p → ER X.K S (C.pl [p]) σ H2 (restE ρ1 r.2 vs) → Adv (C.mo S σ ρ) H (C.mo S σ (restE ρ1 r.2 vs)) H2 → OwnAt X.K S.T ((C.pl [p]).O S σ (restE ρ1 r.2 vs)) H2 p (.lst (ds4 ++ r.1)) → Q (.ref p) H2) →
          ∃ ρ2 acc2 ds2, Pv (i + 1) ρ2 acc2 ds2 H4 := fun ρ4 H4 acc4 ds4 E4 A4 h4 r4 l4 n4 w4 => by
        refine ⟨ρ4, acc4, ds4, hwz ▸ E4.wiped ho hf, ?_, h4, ?_, l4, ?_, w4⟩
        · rw [← hwz, mo_wipe ho]; exact A4
        · rw [← hwz, O_wipe ho]; exact r4
        · rw [← hwz]; exact fun z => n4 ((M_wipe ho).mp z)
      refine qt (C.pl [L]) σ3 H3 ρ3 _ E3 ((noErr_wp w3).mono (fun _ _ h => h) fun r4 _ w4 H4 E4 A4 => ?_)
      obtain ⟨b, ρ4⟩ := r4
      have hL4 : H4 L = some (.lst acc) := A4.st L _ nm3 hL3
      have nm4 : ¬ EC.M S σ3 ρ4 L := fun z => (A4.mn L z).elim nm3 fun e => by rw [hL3] at e; cases e
      cases b with
      | false => exact next ρ4 H4 acc ds E4 (A3'.trans A4) hL4 (rs3.adv A4.ra) (by omega) nm4 w4
      | true =>
        refine ⟨C.pl [L], ρ4, E4, (noErr_wp w4).mono (fun _ _ h => h) fun r5 _ w5 v5 H5 E5 A5 R5 => ?_⟩
        obtain ⟨x5, e5, w6⟩ := opt_wp w5
        have hL5 : H5 L = some (.lst acc) := A5.st L _ nm4 hL4
        have nm5 : ¬ EC.M S σ3 r5.2 L := fun z => (A5.mn L z).elim nm4 fun e => by rw [hL4] at e; cases e
        have rs5 := (rs3.adv A4.ra).adv A5.ra
        refine ⟨acc, hL5, Nat.lt_of_le_of_lt hle (Nat.lt_of_lt_of_le hlt hz), ?_⟩
        have E6 := E5.mutNew (u := .lst (acc ++ [v5])) hC0 nm5 hL5 trivial trivial
        have ra6 : RA ((C.pl [L]).O S σ3 r5.2) H5 ((C.pl [L]).O S σ3 r5.2) (upd H5 L (.lst (acc ++ [v5]))) := by
          have op : (C.pl [L]).O S σ3 r5.2 L := .inl (.inr (List.mem_singleton.mpr rfl))
          refine ⟨fun b v n h => ?_, fun b z => .inl z, fun b h => ?_⟩
          · have ne : b ≠ L := fun e => n (e ▸ op)
            rcases h with h | ⟨o, h⟩
            · exact .inl (by rw [upd_ne ne]; exact h)
            · exact .inr ⟨o, by rw [upd_ne ne]; exact h⟩
          · by_cases e : b = L
            · subst e; rw [upd_same]; exact some_ne rfl
            · rw [upd_ne e]; exact h
        refine next r5.2 _ (acc ++ [v5]) (ds ++ [x5]) E6 (((A3'.trans A4).trans A5).mutNew hL (by rw [hL5]; exact some_ne rfl)) upd_same ((rs5.adv ra6).snoc ((R5.val e5).adv ra6)) (by rw [List.length_append]; simp; omega) nm5 ?_
        refine (Wp.bind w6).mono (fun _ _ h => h) fun r6 _ h => ?_
        rw [List.append_assoc]
        exact h
  · have ei : i = xs.length := by omega
    subst ei
    rw [List.drop_length] at w'
    refine .inl ⟨I1.stop _ H' A'.ra, ?_⟩
    have hl : ρ'.length = ρ1.length := by
      have h1 := E'.len
      rw [wipeE_length, wipe_length] at h1
      exact h1.trans E1.len.symm
    have E2 : ER X.K S (C.pl [L]) σ H' (restE ρ1 ρ' vs) := E'.rest E1 A'.ra ho E1.fx
    have emo : (C.pl [L]).mo S σ (restE ρ1 ρ' vs) = (C.pl [L]).mo S (wipe σ vs) (wipeE ρ' vs) := mo_rest hl ho
    have A2 : Adv (C.mo S σ ρ1) H1 (C.mo S σ (restE ρ1 ρ' vs)) H' := by
      rw [← emo] at A'
      exact A'.trans adv_unplus
    have hm : EC.M S σ (restE ρ1 ρ' vs) L → False := fun z => nm ((M_rest hl ho).mp z)
    refine w' L H' (A1.back hL) (fun z => z.elim (fun z => nO (.inl z)) hm) E2 (A1.trans A2) ?_
    rw [List.append_nil]
    refine ⟨acc, hacc, ?_⟩
    rw [show (C.pl [L]).O S σ (restE ρ1 ρ' vs) = (C.pl [L]).O S (wipe σ vs) (wipeE ρ' vs) from congrArg MO.O emo]
    exact rs
def cYes : Env → Res (Bool × Env) := fun ρ => .ok (true, ρ)
/-- [elt for tg in iter] -/
theorem ef_lc {elt tg iter : Expr} {scope : Scope} {own : List (Str × Nat)} {ts : List Nat} {fi : Env → Res (List D × Env)} {g : D → Env → Res Env} {fe : SE} (hc : X.calm = true) (hN : X.N.Nodup) (ho : ∀ v, v ∈ own.map (·.2) → v ∉ S.ow) (hf : ∀ v, v ∈ own.map (·.2) → v ∉ S.fx) (hts : ∀ i, i ∈ ts → i ∈ own.map (·.2))
    (hi : EvI X S W tg iter fi) (ok : BlkOk X.N X.env.scope scope own)
    (hg : ∀ (s : Shared) (H : Hp) (C : Addr) (cl : List (Str × Addr)) (fp : List Addr), EvG (X.blk s H scope (compEnvC scope cl C X.env) fp) S ts tg g)
    (he : ∀ (s : Shared) (H : Hp) (C : Addr) (cl : List (Str × Addr)) (fp : List Addr), EvE (X.blk s H scope (compEnvC scope cl C X.env) fp) S WF elt fe) (hs : ∀ x, foldedSetIterable iter X.env x = pure x := by intro _; rfl) :
    EvF X S W (.ListComp elt [⟨tg, iter, [], 0⟩] scope pos) (fLc (own.map (·.2)) fi g cYes fe) := by
  obtain ⟨wi, pi, qi⟩ := hi
  refine ⟨_, pe_lc hc hN pi ok (g := canG X.K S ts g) (tt := tYes) (te := canE X.K S WF fe) (fun s H C cl fp => (hg s H C cl fp).can) (fun _ _ _ _ _ => pts_nil) (fun s H C cl fp => (he s H C cl fp).can) hs, fun C σ H ρ Q E w => ?_⟩
  exact lc_can (cnd := cYes) ho hf hts qi (fun C σ H ρ Q E w => w H E (.refl _ _)) C σ H ρ Q E w
/-- [elt for tg in iter if c] -/
theorem ef_lcIf {elt tg iter c : Expr} {scope : Scope} {own : List (Str × Nat)} {ts : List Nat} {fi : Env → Res (List D × Env)} {g : D → Env → Res Env} {fc : Env → Res (Bool × Env)} {fe : SE} (hc : X.calm = true) (hN : X.N.Nodup) (ho : ∀ v, v ∈ own.map (·.2) → v ∉ S.ow) (hf : ∀ v, v ∈ own.map (·.2) → v ∉ S.fx) (hts : ∀ i, i ∈ ts → i ∈ own.map (·.2))
    (hi : EvI X S W tg iter fi) (ok : BlkOk X.N X.env.scope scope own)
    (hg : ∀ (s : Shared) (H : Hp) (C : Addr) (cl : List (Str × Addr)) (fp : List Addr), EvG (X.blk s H scope (compEnvC scope cl C X.env) fp) S ts tg g)
    (ht : ∀ (s : Shared) (H : Hp) (C : Addr) (cl : List (Str × Addr)) (fp : List Addr), EvT (X.blk s H scope (compEnvC scope cl C X.env) fp) S WF c fc)
    (he : ∀ (s : Shared) (H : Hp) (C : Addr) (cl : List (Str × Addr)) (fp : List Addr), EvE (X.blk s H scope (compEnvC scope cl C X.env) fp) S WF elt fe) (hs : ∀ x, foldedSetIterable iter X.env x = pure x := by intro _; rfl) :
    EvF X S W (.ListComp elt [⟨tg, iter, [c], 0⟩] scope pos) (fLc (own.map (·.2)) fi g fc fe) := by
  obtain ⟨wi, pi, qi⟩ := hi
  refine ⟨_, pe_lc hc hN pi ok (g := canG X.K S ts g) (tt := canT X.K S WF fc) (te := canE X.K S WF fe) (fun s H C cl fp => (hg s H C cl fp).can) (fun s H C cl fp => pts_one (ht s H C cl fp).can) (fun s H C cl fp => (he s H C cl fp).can) hs, fun C σ H ρ Q E w => ?_⟩
  exact lc_can ho hf hts qi (fun C σ H ρ Q E w => ⟨C, ρ, E, w⟩) C σ H ρ Q E w
end
end EV

namespace EV
open PySem PySem.Spec L2 SX
open PyProof.Rows hiding St

/-! ### data that == reads -/
mutual
def D.lay : D → Bool
  | .tup xs => layL xs
  | .lst xs => layL xs
  | .dk _ => false
  | .dt _ => false
  | .fn _ => false
  | .scr _ => false
  | _ => true
def layL : List D → Bool
  | [] => true
  | d :: r => d.lay && layL r
end
mutual
def D.py : D → PyData
  | .non => .none
  | .bl b => .bool b
  | .int i => .int i
  | .str s => .str (S s)
  | .tup xs => .tuple (pyL xs)
  | .lst xs => .list (pyL xs)
  | .dk _ => .none
  | .dt _ => .none
  | .fn _ => .none
  | .scr _ => .none
def pyL : List D → List PyData
  | [] => []
  | d :: r => d.py :: pyL r
end
mutual
def D.dep : D → Nat
  | .tup xs => depL xs + 1
  | .lst xs => depL xs + 1
  | _ => 0
def depL : List D → Nat
  | [] => 0
  | d :: r => max d.dep (depL r)
end
mutual
/-- == -/
def D.eqv : D → D → Bool
  | .non, .non => true
  | .bl a, .bl b => a == b
  | .bl a, .int j => (if a then 1 else 0) == j
  | .int i, .bl b => i == (if b then 1 else 0)
  | .int i, .int j => i == j
  | .str x, .str y => x == y
  | .lst xs, .lst ys => eqvL xs ys
  | .tup xs, .tup ys => eqvL xs ys
  | _, _ => false
def eqvL : List D → List D → Bool
  | [], [] => true
  | x :: xs, y :: ys => x.eqv y && eqvL xs ys
  | _, _ => false
end
theorem pyL_map : ∀ xs : List D, pyL xs = xs.map D.py
  | [] => by simp [pyL]
  | d :: r => by simp [pyL, pyL_map r]
mutual
theorem py_dep : ∀ d : D, d.lay = true → d.py.depth = d.dep
  | .non, _ => by simp [D.py, D.dep, PyData.depth]
  | .bl _, _ => by simp [D.py, D.dep, PyData.depth]
  | .int _, _ => by simp [D.py, D.dep, PyData.depth]
  | .str _, _ => by simp [D.py, D.dep, PyData.depth]
  | .tup xs, h => by
    simp only [D.py, D.dep, PyData.depth]
    rw [pyL_dep xs (by simpa [D.lay] using h)]
  | .lst xs, h => by
    simp only [D.py, D.dep, PyData.depth]
    rw [pyL_dep xs (by simpa [D.lay] using h)]
  | .dk _, h => by simp [D.lay] at h
  | .dt _, h => by simp [D.lay] at h
  | .fn _, h => by simp [D.lay] at h
  | .scr _, h => by simp [D.lay] at h
theorem pyL_dep : ∀ xs : List D, layL xs = true → PyData.depthAll (pyL xs) = depL xs
  | [], _ => by simp [pyL, depL, PyData.depthAll]
  | d :: r, h => by
    have h' : d.lay = true ∧ layL r = true := by simpa [layL] using h
    simp only [pyL, depL, PyData.depthAll]
    rw [py_dep d h'.1, pyL_dep r h'.2]
end
mutual
theorem py_eqv : ∀ a b : D, a.lay = true → b.lay = true → PyData.eqv a.py b.py = a.eqv b
  | .non, b, _, hb => by cases b <;> simp_all [D.py, D.eqv, PyData.eqv, D.lay]
  | .bl x, b, _, hb => by cases b <;> simp_all [D.py, D.eqv, PyData.eqv, D.lay]
  | .int x, b, _, hb => by cases b <;> simp_all [D.py, D.eqv, PyData.eqv, D.lay]
  | .str x, b, _, hb => by cases b <;> simp_all [D.py, D.eqv, PyData.eqv, D.lay, S_beq]
  | .tup xs, b, ha, hb => by
    cases b with
    | tup ys =>
      simp only [D.py, D.eqv, PyData.eqv]
      exact pyL_eqv xs ys (by simpa [D.lay] using ha) (by simpa [D.lay] using hb)
    | _ => simp_all [D.py, D.eqv, PyData.eqv, D.lay]
  | .lst xs, b, ha, hb => by
    cases b with
    | lst ys =>
      simp only [D.py, D.eqv, PyData.eqv]
      exact pyL_eqv xs ys (by simpa [D.lay] using ha) (by simpa [D.lay] using hb)
    | _ => simp_all [D.py, D.eqv, PyData.eqv, D.lay]
  | .dk _, _, h, _ => by simp [D.lay] at h
  | .dt _, _, h, _ => by simp [D.lay] at h
  | .fn _, _, h, _ => by simp [D.lay] at h
  | .scr _, _, h, _ => by simp [D.lay] at h
theorem pyL_eqv : ∀ xs ys : List D, layL xs = true → layL ys = true → PyData.eqvAll (pyL xs) (pyL ys) = eqvL xs ys
  | [], [], _, _ => by simp [pyL, eqvL, PyData.eqvAll]
  | [], _ :: _, _, _ => by simp [pyL, eqvL, PyData.eqvAll]
  | _ :: _, [], _, _ => by simp [pyL, eqvL, PyData.eqvAll]
  | x :: xs, y :: ys, h, h2 => by
    have h' : x.lay = true ∧ layL xs = true := by simpa [layL] using h
    have h2' : y.lay = true ∧ layL ys = true := by simpa [layL] using h2
    simp only [pyL, eqvL, PyData.eqvAll]
    rw [py_eqv x y h'.1 h2'.1, pyL_eqv xs ys h'.2 h2'.2]
end
section
variable {K : PySem.W.Frag} {T : Nat → Option Addr} {O : Addr → Prop} {H : Hp}
mutual
theorem Rep.dp : ∀ (d : D) (v : V), Rep K T O H v d → d.lay = true → Dp K H v d.py ∧ d.py.canLay0 = true
  | .non, _, h, _ => by cases h; exact ⟨by rw [D.py]; exact .non, by simp [D.py, PyData.canLay0]⟩
  | .bl b, _, h, _ => by cases h; exact ⟨by rw [D.py]; exact .bl b, by simp [D.py, PyData.canLay0]⟩
  | .int i, _, h, _ => by cases h; exact ⟨by rw [D.py]; exact .int i, by simp [D.py, PyData.canLay0]⟩
  | .str s, _, h, _ => by
    cases h with
    | str _ hs =>
      refine ⟨by rw [D.py]; exact .str (S s), ?_⟩
      rw [D.py, PyData.canLay0]
      show (S s).cps.all (· < 0x110000) = true
      rw [Array.all_eq_true']
      intro c hc
      exact decide_eq_true (hs c (by simpa using hc))
  | .tup xs, _, h, hl => by
    cases h with
    | tup h1 h2 =>
      obtain ⟨q1, q2⟩ := Reps.dp xs _ h2 (by simpa [D.lay] using hl)
      exact ⟨by rw [D.py]; exact .tup h1.sq q1, by rw [D.py, PyData.canLay0]; exact q2⟩
  | .lst xs, _, h, hl => by
    cases h with
    | lst h0 h1 h2 =>
      obtain ⟨q1, q2⟩ := Reps.dp xs _ h2 (by simpa [D.lay] using hl)
      exact ⟨by rw [D.py]; exact .lst (.inl h1) q1, by rw [D.py, PyData.canLay0]; exact q2⟩
  | .dk _, _, _, h => by simp [D.lay] at h
  | .dt _, _, _, h => by simp [D.lay] at h
  | .fn _, _, _, h => by simp [D.lay] at h
  | .scr _, _, _, h => by simp [D.lay] at h
theorem Reps.dp : ∀ (ds : List D) (vs : List V), Reps K T O H vs ds → layL ds = true → DpAll K H vs (pyL ds) ∧ PyData.canLayAll0 (pyL ds) = true
  | [], _, h, _ => by cases h; exact ⟨by rw [pyL]; exact .nil, by simp [pyL, PyData.canLayAll0]⟩
  | d :: ds, _, h, hl => by
    have h' : d.lay = true ∧ layL ds = true := by simpa [layL] using hl
    cases h with
    | cons h1 h2 =>
      obtain ⟨a1, a2⟩ := Rep.dp d _ h1 h'.1
      obtain ⟨b1, b2⟩ := Reps.dp ds _ h2 h'.2
      exact ⟨by rw [pyL]; exact .cons a1 b1, by rw [pyL, PyData.canLayAll0, a2, b2]; rfl⟩
end
theorem RT.dp {d : D} {v : V} (h : RT K T O H v d) (hl : d.lay = true) : Dp K H v d.py ∧ d.py.canLay0 = true := by
  rcases h with h | ⟨a, rfl, h⟩
  · exact h.dp _ _ hl
  · cases d with
    | lst xs =>
      obtain ⟨vs, h1, h2⟩ := h
      obtain ⟨q1, q2⟩ := h2.dp xs _ (by simpa [D.lay] using hl)
      exact ⟨by rw [D.py]; exact .lst (SqL.of h1) q1, by rw [D.py, PyData.canLay0]; exact q2⟩
    | dk _ => simp [D.lay] at hl
    | dt _ => simp [D.lay] at hl
    | _ => exact h.elim
end

/-! ### operations -/
section
variable {X : Cx} {f : Value → Value → Sem Value} {g g' : D → D → Option D}
theorem OpD.or (h : OpD X f g) (h' : OpD X f g') : OpD X f (fun a b => (g a b).or (g' a b)) := by
  obtain ⟨r, hr, qr⟩ := h
  obtain ⟨r', hr', qr'⟩ := h'
  refine ⟨_, hr.or hr', fun T O H v1 v2 d1 d2 d Q oh h1 h2 e k => ?_⟩
  have e' : (g d1 d2).or (g' d1 d2) = some d := e
  cases q : g d1 d2 with
  | some x => rw [q] at e'; cases e'; exact .inl (qr T O H v1 v2 d1 d2 _ Q oh h1 h2 q k)
  | none => rw [q] at e'; exact .inr (qr' T O H v1 v2 d1 d2 _ Q oh h1 h2 e' k)
def onII (f : Int → Int → Option D) : D → D → Option D
  | .int i, .int j => f i j
  | _, _ => none
theorem onII_some {f : Int → Int → Option D} {a b d : D} (h : onII f a b = some d) : ∃ i j, a = .int i ∧ b = .int j ∧ f i j = some d := by
  unfold onII at h
  split at h
  · exact ⟨_, _, rfl, rfl, h⟩
  · cases h
def onSS (f : List Nat → List Nat → Option D) : D → D → Option D
  | .str i, .str j => f i j
  | _, _ => none
theorem onSS_some {f : List Nat → List Nat → Option D} {a b d : D} (h : onSS f a b = some d) : ∃ i j, a = .str i ∧ b = .str j ∧ f i j = some d := by
  unfold onSS at h
  split at h
  · exact ⟨_, _, rfl, rfl, h⟩
  · cases h
theorem int_opD {k : Int → Int → Int} (h : OpR X f (rI0 fun i j => .int (k i j))) : OpD X f (onII fun i j => some (.int (k i j))) :=
  ⟨_, h, fun T O H v1 v2 d1 d2 d Q oh h1 h2 e q => by
    obtain ⟨i, j, rfl, rfl, e'⟩ := onII_some e
    cases e'
    exact ⟨i, j, h1.int, h2.int, q _ H (.refl _) (.int _)⟩⟩
theorem int_opDC {C : Int → Int → Prop} [∀ i j, Decidable (C i j)] {k : Int → Int → Int} (h : OpR X f (rI C fun i j => .int (k i j))) : OpD X f (onII fun i j => if C i j then some (.int (k i j)) else none) :=
  ⟨_, h, fun T O H v1 v2 d1 d2 d Q oh h1 h2 e q => by
    obtain ⟨i, j, rfl, rfl, e'⟩ := onII_some e
    split at e'
    · rename_i hc
      cases e'
      exact ⟨i, j, h1.int, h2.int, hc, q _ H (.refl _) (.int _)⟩
    · cases e'⟩
theorem int_cmpD {k : Int → Int → Bool} (h : OpR X f (rI0 fun i j => .bl (k i j))) : OpD X f (onII fun i j => some (.bl (k i j))) :=
  ⟨_, h, fun T O H v1 v2 d1 d2 d Q oh h1 h2 e q => by
    obtain ⟨i, j, rfl, rfl, e'⟩ := onII_some e
    cases e'
    exact ⟨i, j, h1.int, h2.int, q _ H (.refl _) (.bl _)⟩⟩
instance (i j : Int) : Decidable (CMul i j) := inferInstanceAs (Decidable (_ ∨ _))
instance (i j : Int) : Decidable (CDiv i j) := inferInstanceAs (Decidable (_ ∧ _))
instance (i j : Int) : Decidable (CPow i j) := inferInstanceAs (Decidable (_ ∧ _))
def dSub : D → D → Option D := onII fun i j => some (.int (i - j))
theorem od_sub : OpD X (binaryOp .Sub) dSub := int_opD op_sub
def dMulI : D → D → Option D := onII fun i j => if CMul i j then some (.int (i * j)) else none
def dDiv : D → D → Option D := onII fun i j => if CDiv i j then some (.int (i / j)) else none
theorem od_div : OpD X (binaryOp .FloorDiv) dDiv := int_opDC op_fdiv
def dMod : D → D → Option D := onII fun i j => if 0 < j then some (.int (i % j)) else none
theorem od_mod : OpD X (binaryOp .Mod) dMod := int_opDC (C := fun _ j => 0 < j) op_mod
def dPow : D → D → Option D := onII fun i j => if CPow i j then some (.int (i ^ j.toNat)) else none
theorem od_pow : OpD X (binaryOp .Pow) dPow := int_opDC op_pow
def dLt : D → D → Option D := onII fun i j => some (.bl (decide (i < j)))
def dLe : D → D → Option D := onII fun i j => some (.bl (decide (i ≤ j)))
def dGt : D → D → Option D := onII fun i j => some (.bl (decide (j < i)))
def dGe : D → D → Option D := onII fun i j => some (.bl (decide (j ≤ i)))
theorem od_lt : OpD X (compareOp .Lt) dLt := int_cmpD op_lt
theorem od_le : OpD X (compareOp .LtE) dLe := int_cmpD op_le
theorem od_gt : OpD X (compareOp .Gt) dGt := int_cmpD op_gt
theorem od_ge : OpD X (compareOp .GtE) dGe := int_cmpD op_ge
/-- == , !=: of data -/
def eqOk (a b : D) : Bool := a.lay && b.lay && decide (min a.dep b.dep ≤ 64)
def dEq (a b : D) : Option D := if eqOk a b = true then some (.bl (a.eqv b)) else none
def dNe (a b : D) : Option D := if eqOk a b = true then some (.bl (!a.eqv b)) else none
def rEqP (K : PySem.W.Frag) (k : Bool → Bool) : R2 := fun x y H Q => ∃ d e : PyData, Dp K H x d ∧ Dp K H y e ∧ d.canLay0 = true ∧ e.canLay0 = true ∧ min d.depth e.depth ≤ 64 ∧ Q (.bl (k (PyData.eqv d e))) H
theorem op_eqP (hu : X.A.units + 64 < cLine) : OpR X (compareOp .Eq) (rEqP X.K id) := by
  intro pins s σ H x y v u Q I rx ry h
  obtain ⟨d, e, hd, he, sd, se, hm, q⟩ := h
  obtain ⟨as, r1⟩ := Dp.reads I d x v hd rx
  obtain ⟨bs, r2⟩ := Dp.reads I e y u he ry
  exact SeqAt.compareEq_reads r1 r2 sd se (by omega) ⟨.bl _, H, I, rfl, q⟩
theorem op_neP (hu : X.A.units + 64 < cLine) : OpR X (compareOp .NotEq) (rEqP X.K not) := by
  intro pins s σ H x y v u Q I rx ry h
  obtain ⟨d, e, hd, he, sd, se, hm, q⟩ := h
  obtain ⟨as, r1⟩ := Dp.reads I d x v hd rx
  obtain ⟨bs, r2⟩ := Dp.reads I e y u he ry
  exact SeqAt.compareNe_reads r1 r2 sd se (by omega) ⟨.bl _, H, I, rfl, q⟩
theorem eqOk_of {a b : D} (h : eqOk a b = true) : a.lay = true ∧ b.lay = true ∧ min a.dep b.dep ≤ 64 := by
  simp only [eqOk, Bool.and_eq_true, decide_eq_true_eq] at h
  exact ⟨h.1.1, h.1.2, h.2⟩
theorem od_eqk {k : Bool → Bool} {f : Value → Value → Sem Value} (h : OpR X f (rEqP X.K k)) : OpD X f (fun a b => if eqOk a b = true then some (.bl (k (a.eqv b))) else none) :=
  ⟨_, h, fun T O H v1 v2 d1 d2 d Q oh h1 h2 e q => by
    have e' : (if eqOk d1 d2 = true then some (D.bl (k (d1.eqv d2))) else none) = some d := e
    split at e'
    · rename_i hk
      cases e'
      obtain ⟨la, lb, hd⟩ := eqOk_of hk
      obtain ⟨p1, c1⟩ := h1.dp la
      obtain ⟨p2, c2⟩ := h2.dp lb
      refine ⟨_, _, p1, p2, c1, c2, by rw [py_dep _ la, py_dep _ lb]; exact hd, ?_⟩
      rw [py_eqv _ _ la lb]
      exact q _ H (.refl _) (.bl _)
    · cases e'⟩
theorem od_eq (hu : X.A.units + 64 < cLine) : OpD X (compareOp .Eq) dEq := od_eqk (op_eqP hu)
theorem od_ne (hu : X.A.units + 64 < cLine) : OpD X (compareOp .NotEq) dNe := od_eqk (op_neP hu)
/-- is None, is a bool -/
def isNon : D → Bool
  | .non => true
  | _ => false
def dIs (neg : Bool) (a b : D) : Option D := match b with
  | .non => some (.bl (isNon a != neg))
  | .bl y => match a with
    | .bl x => some (.bl (decide (x = y) != neg))
    | _ => none
  | _ => none
theorem RT.isnon {K : PySem.W.Frag} {T : Nat → Option Addr} {O : Addr → Prop} {H : Hp} {v : V} {d : D} (h : RT K T O H v d) : decide (v = .non) = isNon d := by
  rcases h with h | ⟨a, rfl, h⟩
  · cases h <;> rfl
  · cases d <;> first | rfl | exact h.elim
theorem dIs_some {neg : Bool} {a b d : D} (h : dIs neg a b = some d) : (b = .non ∧ d = .bl (isNon a != neg)) ∨ ∃ x y, a = .bl x ∧ b = .bl y ∧ d = .bl (decide (x = y) != neg) := by
  cases b with
  | non => cases h; exact .inl ⟨rfl, rfl⟩
  | bl y =>
    cases a with
    | bl x => cases h; exact .inr ⟨_, _, rfl, rfl, rfl⟩
    | _ => cases h
  | _ => cases h
theorem od_is : OpD X (compareOp .Is) (dIs false) :=
  ⟨_, op_isN.or op_isBl, fun T O H v1 v2 d1 d2 d Q oh h1 h2 e q => by
    rcases dIs_some e with ⟨rfl, rfl⟩ | ⟨x, y, rfl, rfl, rfl⟩
    · refine .inl ⟨h2.non, ?_⟩
      rw [h1.isnon]
      have := q _ H (.refl _) (.bl _)
      rw [Bool.bne_false] at this
      exact this
    · refine .inr ⟨x, y, h1.bl, h2.bl, ?_⟩
      have := q _ H (.refl _) (.bl _)
      rw [Bool.bne_false] at this
      exact this⟩
theorem od_isNot : OpD X (compareOp .IsNot) (dIs true) :=
  ⟨_, op_notN.or op_notBl, fun T O H v1 v2 d1 d2 d Q oh h1 h2 e q => by
    rcases dIs_some e with ⟨rfl, rfl⟩ | ⟨x, y, rfl, rfl, rfl⟩
    · refine .inl ⟨h2.non, ?_⟩
      rw [h1.isnon]
      have := q _ H (.refl _) (.bl _)
      rw [Bool.bne_true] at this
      exact this
    · refine .inr ⟨x, y, h1.bl, h2.bl, ?_⟩
      have := q _ H (.refl _) (.bl _)
      rw [Bool.bne_true] at this
      exact this⟩
/-- in, not in -/
def strIn (a b : List Nat) : Bool := !(Builtin.Str.occurrences (S b) (S a) 0 (S b).length 1).isEmpty
def anyEqv (x : D) : List D → Bool
  | [] => false
  | d :: r => d.eqv x || anyEqv x r
def inOk (x : D) (ds : List D) : Bool := x.lay && layL ds && decide (min (depL ds) x.dep ≤ 63)
def dIn (k : Bool → Bool) : D → D → Option D
  | x, .lst ds => if inOk x ds = true then some (.bl (k (anyEqv x ds))) else none
  | x, .tup ds => if inOk x ds = true then some (.bl (k (anyEqv x ds))) else none
  | .str a, .str b => some (.bl (k (strIn a b)))
  | _, _ => none
theorem anyEqv_py {x : D} (hx : x.lay = true) : ∀ {ds : List D}, layL ds = true → ((pyL ds).any fun z => PyData.eqv z x.py) = anyEqv x ds
  | [], _ => by simp [pyL, anyEqv]
  | d :: r, h => by
    have h' : d.lay = true ∧ layL r = true := by simpa [layL] using h
    simp only [pyL, anyEqv, List.any_cons]
    rw [py_eqv d x h'.1 hx, anyEqv_py hx h'.2]
def rInP (K : PySem.W.Frag) (k : Bool → Bool) : R2 := fun x y H Q => ∃ d ds, Dp K H x d ∧ (Dp K H y (.list ds) ∨ Dp K H y (.tuple ds)) ∧ d.canLay0 = true ∧ PyData.canLayAll0 ds = true ∧ min (PyData.depthAll ds) d.depth ≤ 63 ∧ Q (.bl (k (ds.any fun z => PyData.eqv z d))) H
theorem op_inP (hu : X.A.units + 65 < cLine) : OpR X (compareOp .In) (rInP X.K id) := by
  intro pins s σ H x y v u Q I rx ry h
  obtain ⟨d, ds, hd, he, sd, se, hm, q⟩ := h
  obtain ⟨as, r1⟩ := Dp.reads I d x v hd rx
  rcases he with he | he
  · obtain ⟨bs, r2⟩ := Dp.reads I (.list ds) y u he ry
    exact SeqAt.in_list_reads r2 r1 se sd (by omega) ⟨.bl _, H, I, rfl, q⟩
  · obtain ⟨bs, r2⟩ := Dp.reads I (.tuple ds) y u he ry
    exact SeqAt.in_tuple_reads r2 r1 se sd (by omega) ⟨.bl _, H, I, rfl, q⟩
theorem op_notInP (hu : X.A.units + 65 < cLine) : OpR X (compareOp .NotIn) (rInP X.K not) := by
  intro pins s σ H x y v u Q I rx ry h
  obtain ⟨d, ds, hd, he, sd, se, hm, q⟩ := h
  obtain ⟨as, r1⟩ := Dp.reads I d x v hd rx
  rcases he with he | he
  · obtain ⟨bs, r2⟩ := Dp.reads I (.list ds) y u he ry
    exact SeqAt.notIn_list_reads r2 r1 se sd (by omega) ⟨.bl _, H, I, rfl, q⟩
  · obtain ⟨bs, r2⟩ := Dp.reads I (.tuple ds) y u he ry
    exact SeqAt.notIn_tuple_reads r2 r1 se sd (by omega) ⟨.bl _, H, I, rfl, q⟩
theorem dIn_some {k : Bool → Bool} {a b d : D} (h : dIn k a b = some d) : (∃ ds, (b = .lst ds ∨ b = .tup ds) ∧ inOk a ds = true ∧ d = .bl (k (anyEqv a ds))) ∨ ∃ x y, a = .str x ∧ b = .str y ∧ d = .bl (k (strIn x y)) := by
  unfold dIn at h
  split at h
  · split at h
    · rename_i hk
      cases h
      exact .inl ⟨_, .inl rfl, hk, rfl⟩
    · cases h
  · split at h
    · rename_i hk
      cases h
      exact .inl ⟨_, .inr rfl, hk, rfl⟩
    · cases h
  · cases h; exact .inr ⟨_, _, rfl, rfl, rfl⟩
  · cases h
theorem od_ink {k : Bool → Bool} {f : Value → Value → Sem Value} (h : OpR X f (rInP X.K k)) (h' : OpR X f (fun x y H Q => ∃ i j, x = .str i ∧ y = .str j ∧ Q (.bl (k (!(Builtin.Str.occurrences j i 0 j.length 1).isEmpty))) H)) : OpD X f (dIn k) :=
  ⟨_, h.or h', fun T O H v1 v2 d1 d2 d Q oh h1 h2 e q => by
    rcases dIn_some e with ⟨ds, hb, hk, rfl⟩ | ⟨x, y, rfl, rfl, rfl⟩
    · simp only [inOk, Bool.and_eq_true, decide_eq_true_eq] at hk
      obtain ⟨⟨lx, ll⟩, hd⟩ := hk
      obtain ⟨p1, c1⟩ := h1.dp lx
      have hq := q _ H (.refl _) (.bl (k (anyEqv d1 ds)))
      rw [← anyEqv_py lx ll] at hq
      rcases hb with rfl | rfl
      · obtain ⟨p2, c2⟩ := h2.dp (show D.lay (.lst ds) = true by simpa [D.lay] using ll)
        refine .inl ⟨_, pyL ds, p1, .inl (by rw [D.py] at p2; exact p2), c1, by rw [D.py, PyData.canLay0] at c2; exact c2, by rw [pyL_dep _ ll, py_dep _ lx]; exact hd, hq⟩
      · obtain ⟨p2, c2⟩ := h2.dp (show D.lay (.tup ds) = true by simpa [D.lay] using ll)
        refine .inl ⟨_, pyL ds, p1, .inr (by rw [D.py] at p2; exact p2), c1, by rw [D.py, PyData.canLay0] at c2; exact c2, by rw [pyL_dep _ ll, py_dep _ lx]; exact hd, hq⟩
    · exact .inr ⟨_, _, h1.str, h2.str, q _ H (.refl _) (.bl _)⟩⟩
theorem od_in (hu : X.A.units + 65 < cLine) : OpD X (compareOp .In) (dIn id) := od_ink (op_inP hu) op_in_str
theorem od_notIn (hu : X.A.units + 65 < cLine) : OpD X (compareOp .NotIn) (dIn not) := od_ink (op_notInP hu) op_notin_str

/-! ### + -/
def onTT (f : List D → List D → Option D) : D → D → Option D
  | .tup i, .tup j => f i j
  | _, _ => none
theorem onTT_some {f : List D → List D → Option D} {a b d : D} (h : onTT f a b = some d) : ∃ i j, a = .tup i ∧ b = .tup j ∧ f i j = some d := by
  unfold onTT at h
  split at h
  · exact ⟨_, _, rfl, rfl, h⟩
  · cases h
def onLL (f : List D → List D → Option D) : D → D → Option D
  | .lst i, .lst j => f i j
  | _, _ => none
theorem onLL_some {f : List D → List D → Option D} {a b d : D} (h : onLL f a b = some d) : ∃ i j, a = .lst i ∧ b = .lst j ∧ f i j = some d := by
  unfold onLL at h
  split at h
  · exact ⟨_, _, rfl, rfl, h⟩
  · cases h
theorem Reps.append {K : PySem.W.Frag} {T : Nat → Option Addr} {O : Addr → Prop} {H : Hp} : ∀ {vs ws : List V} {ds es : List D}, Reps K T O H vs ds → Reps K T O H ws es → Reps K T O H (vs ++ ws) (ds ++ es)
  | _, _, _, _, .nil, h => h
  | _, _, _, _, .cons a b, h => .cons a (Reps.append b h)
theorem okS_append {a b : List Nat} (ha : okS a) (hb : okS b) : okS (a ++ b) := fun c hc => (List.mem_append.mp hc).elim (ha c) (hb c)
theorem od_addS : OpD X (binaryOp .Add) (onSS fun a b => if a.length + b.length ≤ LIM then some (.str (a ++ b)) else none) :=
  ⟨_, op_add_str, fun T O H v1 v2 d1 d2 d Q oh h1 h2 e q => by
    obtain ⟨a, b, rfl, rfl, e'⟩ := onSS_some e
    split at e'
    · rename_i hl
      cases e'
      refine ⟨S a, S b, h1.str, h2.str, by rw [S_len, S_len, lim_eq]; exact hl, ?_⟩
      rw [S_cat]
      exact q _ H (.refl _) (.str _ (okS_append h1.okS h2.okS))
    · cases e'⟩
theorem Reps.nil_iff {K : PySem.W.Frag} {T : Nat → Option Addr} {O : Addr → Prop} {H : Hp} {vs : List V} {ds : List D} (h : Reps K T O H vs ds) : vs = [] ↔ ds = [] := by
  cases h <;> simp
theorem od_addT : OpD X (binaryOp .Add) (onTT fun a b => if a.length + b.length ≤ LIM then some (.tup (a ++ b)) else none) :=
  ⟨_, op_catA, fun T O H v1 v2 d1 d2 d Q oh h1 h2 e q => by
    obtain ⟨a, b, rfl, rfl, e'⟩ := onTT_some e
    split at e'
    · rename_i hl
      cases e'
      obtain ⟨p1, vs1, rfl, s1, r1⟩ := h1.tup
      obtain ⟨p2, vs2, rfl, s2, r2⟩ := h2.tup
      refine ⟨p1, p2, vs1, vs2, rfl, rfl, s1.sq, s2.sq, by rw [r1.length, r2.length, lim_eq]; exact hl, fun e1 => ?_, fun e1 e2 => ?_, fun e1 e2 p hp => ?_⟩
      · have : a = [] := r1.nil_iff.mp e1
        subst this
        exact q _ H (.refl _) (.tup s2 r2)
      · have : b = [] := r2.nil_iff.mp e2
        subst this
        exact q _ H (.refl _) (by rw [List.append_nil]; exact .tup s1 r1)
      · have x : Ex H (upd H p (.tup (vs1 ++ vs2))) := Ex.new hp
        exact q _ _ x (.tup (.inl ⟨OH.fresh oh hp, .inl upd_same⟩) ((r1.append r2).adv x.ra))
    · cases e'⟩
/-- list + list, of any lists that are read -/
def rCatL : R2 := fun x y H Q => ∃ l b xs zs, x = .ref l ∧ y = .ref b ∧ Rd H l (.lst xs) ∧ Rd H b (.lst zs) ∧ xs.length + zs.length ≤ sizeLine ∧ ∀ p, H p = none → Q (.ref p) (upd H p (.lst (xs ++ zs)))
theorem rd_lst {P : Program} {w : World} {H : Hp} {h : Heap} {l : Addr} {xs : List V} (r : Rd H l (.lst xs)) (ok : HOk P w H h) : xs.length ≤ sizeLine ∧ ∃ (its : List Value) (n : Nat), Vals xs its ∧ xs.length = its.length ∧ h.get? l = some { cls := .type "list", data := .seq its.toArray n } := by
  obtain ⟨z, its, n, r', e⟩ := r.ok ok
  exact ⟨z, its, n, r', r'.length, e⟩
theorem op_catL : OpR X (binaryOp .Add) rCatL := by
  intro pins s σ H x y v u Q I rx ry h
  obtain ⟨l, b, xs, zs, rfl, rfl, hH, hB, hz, q⟩ := h
  cases rx
  cases ry
  obtain ⟨z, its, n, r, hl, e⟩ := rd_lst hH I.hok
  obtain ⟨z2, its2, n2, r2, hl2, e2⟩ := rd_lst hB I.hok
  refine PySem.P.add_list e e2 ?_ (by rw [List.size_toArray, List.size_toArray]; omega)
  have ea : its.toArray ++ its2.toArray = (its ++ its2).toArray := by simp
  rw [ea]
  exact ⟨.ref _, _, I.lnew (t' := s.toks) (r.append r2) (by rw [List.length_append]; omega), rfl, q _ I.fresh⟩
def addL : List D → List D → Option D := fun a b => if a.length + b.length ≤ LIM then some (.lst (a ++ b)) else none
theorem od_addL : OpD X (binaryOp .Add) (onLL addL) :=
  ⟨_, op_catL, fun T O H v1 v2 d1 d2 d Q oh h1 h2 e q => by
    obtain ⟨a, b, rfl, rfl, e'⟩ := onLL_some e
    unfold addL at e'
    split at e'
    · rename_i hl
      cases e'
      obtain ⟨p1, vs1, rfl, s1, r1⟩ := h1.lst
      obtain ⟨p2, vs2, rfl, s2, r2⟩ := h2.lst
      refine ⟨p1, p2, vs1, vs2, rfl, rfl, s1, s2, by rw [r1.length, r2.length, lim_eq]; exact hl, fun p hp => ?_⟩
      have x : Ex H (upd H p (.lst (vs1 ++ vs2))) := Ex.new hp
      exact q _ _ x (.lst (OH.fresh oh hp) (.inl upd_same) ((r1.append r2).adv x.ra))
    · cases e'⟩
def dAdd : D → D → Option D
  | .int i, .int j => some (.int (i + j))
  | .str a, .str b => if a.length + b.length ≤ LIM then some (.str (a ++ b)) else none
  | .tup a, .tup b => if a.length + b.length ≤ LIM then some (.tup (a ++ b)) else none
  | .lst a, .lst b => addL a b
  | _, _ => none
theorem OpD.imp {f : Value → Value → Sem Value} {g g' : D → D → Option D} (h : OpD X f g) (hg : ∀ a b d, g' a b = some d → g a b = some d) : OpD X f g' := by
  obtain ⟨r, hr, qr⟩ := h
  exact ⟨r, hr, fun T O H v1 v2 d1 d2 d Q oh h1 h2 e q => qr T O H v1 v2 d1 d2 d Q oh h1 h2 (hg _ _ _ e) q⟩
theorem od_add : OpD X (binaryOp .Add) dAdd := by
  refine (((int_opD op_add).or od_addS).or (od_addT.or od_addL)).imp fun a b d h => ?_
  unfold dAdd at h
  split at h <;> simp_all [onII, onSS, onTT, onLL]
end
end EV

namespace EV
open PySem PySem.Spec L2 SX
open PyProof.Rows hiding St

/-! ### a def: what it makes of its arguments; lent arguments are handed back changed -/
structure FS where
  np : Nat
  bor : List Nat
  m : List D → Res (D × List D)
/-- the addresses that are lent -/
def borA (bor : List Nat) (vs : List V) (a : Addr) : Prop := ∃ k, k ∈ bor ∧ vs[k]? = some (.ref a)
/-- only what is lent has changed -/
structure FrB (bor : List Nat) (vs : List V) (H H' : Hp) : Prop where
  st : ∀ a u, H a = some u → borA bor vs a ∨ H' a = some u
  dm : ∀ a, H a ≠ none → H' a ≠ none
def ArgsR (K : PySem.W.Frag) (T : Nat → Option Addr) (O : Addr → Prop) (H : Hp) (bor : List Nat) : Nat → List V → List D → Prop
  | _, [], [] => True
  | k, v :: vs, d :: ds => (if k ∈ bor then ∃ a, v = .ref a ∧ O a ∧ OwnAt K T O H a d else Rep K T O H v d) ∧ ArgsR K T O H bor (k + 1) vs ds
  | _, _, _ => False
def BackR (K : PySem.W.Frag) (T : Nat → Option Addr) (O : Addr → Prop) (H : Hp) (bor : List Nat) (vs : List V) (ds : List D) : Prop :=
  ∀ k a, k ∈ bor → vs[k]? = some (.ref a) → ∃ d, ds[k]? = some d ∧ OwnAt K T O H a d
def DistR (bor : List Nat) (vs : List V) : Prop := ∀ k l a, k ∈ bor → l ∈ bor → vs[k]? = some (.ref a) → vs[l]? = some (.ref a) → k = l
/-- the promise of a def; S0: the table of defs, the classes of errors -/
def spF (K : PySem.W.Frag) (S0 : ES) (F : FS) : Sp := fun vs H Q E => ∃ (O : Addr → Prop) (ds : List D), vs.length = F.np ∧ OH O H ∧ ArgsR K S0.T O H F.bor 0 vs ds ∧ DistR F.bor vs ∧
  Wp (F.m ds) (fun c p => ∀ d H', FrB F.bor vs H H' → OH O H' → Pay K S0 O H' c d p → E (S0.cls c) d H')
    (fun r => ∀ v H', FrB F.bor vs H H' → OH O H' → Rep K S0.T O H' v r.1 → BackR K S0.T O H' F.bor vs r.2 → Q v H')
theorem ArgsR.length {K : PySem.W.Frag} {T : Nat → Option Addr} {O : Addr → Prop} {H : Hp} {bor : List Nat} : ∀ {k : Nat} {vs : List V} {ds : List D}, ArgsR K T O H bor k vs ds → vs.length = ds.length
  | _, [], [], _ => rfl
  | _, _ :: _, _ :: _, h => congrArg (· + 1) h.2.length
  | _, [], _ :: _, h => h.elim
  | _, _ :: _, [], h => h.elim
theorem ArgsR.get {K : PySem.W.Frag} {T : Nat → Option Addr} {O : Addr → Prop} {H : Hp} {bor : List Nat} : ∀ {k i : Nat} {vs : List V} {ds : List D} {d : D}, ArgsR K T O H bor k vs ds → ds[i]? = some d → ∃ v, vs[i]? = some v ∧ (if k + i ∈ bor then ∃ a, v = .ref a ∧ O a ∧ OwnAt K T O H a d else Rep K T O H v d)
  | _, _, [], [], _, _, e => by simp at e
  | k, 0, v :: vs, d' :: ds, d, h, e => by
    simp at e
    subst e
    exact ⟨v, rfl, h.1⟩
  | k, i + 1, v :: vs, d' :: ds, d, h, e => by
    obtain ⟨w, h1, h2⟩ := ArgsR.get (i := i) (d := d) h.2 (by simpa using e)
    refine ⟨w, by simpa using h1, ?_⟩
    rw [show k + (i + 1) = k + 1 + i by omega]
    exact h2
  | _, _, [], _ :: _, _, h, _ => h.elim
  | _, _, _ :: _, [], _, h, _ => h.elim

/-! ### the body of a def -/
/-- the slots at the entry -/
def start0 (n : Nat) (ds : List D) : Env := ds.map some ++ List.replicate (n - ds.length) none
/-- what a body's run hands back -/
def outB (np : Nat) (bor : List Nat) (d : D) (ρ : Env) : Res (D × List D) := bif bor.all (fun k => (gt ρ k).isSome) then .ok (d, (ρ.take np).map fun o => o.getD .non) else .stuck
def runB (n np : Nat) (bor : List Nat) (B : SS) (ds : List D) : Res (D × List D) := B (start0 n ds) >>= fun r => match r.1 with
  | .nx => outB np bor .non r.2
  | .ret d => outB np bor d r.2
  | _ => .stuck
theorem outB_wp {np : Nat} {bor : List Nat} {d : D} {ρ : Env} {X : Nat → D → Prop} {Q : D × List D → Prop} (h : Wp (outB np bor d ρ) X Q) : (∀ i, i ∈ bor → gt ρ i ≠ none) ∧ Q (d, (ρ.take np).map fun o => o.getD .non) := by
  unfold outB at h
  cases q : bor.all (fun k => (gt ρ k).isSome) with
  | false => rw [q] at h; exact h.elim
  | true =>
    rw [q] at h
    refine ⟨fun i hi e => ?_, h⟩
    have := List.all_eq_true.mp q i hi
    rw [e] at this
    cases this
theorem gt_eq : ∀ (ρ : Env) (i : Nat), gt ρ i = ρ.getD i none
  | [], i => by simp [gt]
  | _ :: _, 0 => rfl
  | _ :: r, i + 1 => by
    show gt r i = _
    rw [gt_eq r i]
    simp
theorem gt_start0 {n : Nat} {ds : List D} {i : Nat} {d : D} (h : gt (start0 n ds) i = some d) : ds[i]? = some d := by
  rw [gt_eq, List.getD_eq_getElem?_getD] at h
  unfold start0 at h
  by_cases hi : i < ds.length
  · rw [List.getElem?_append_left (by simpa using hi)] at h
    rw [List.getElem?_map, List.getElem?_eq_getElem hi] at h
    rw [List.getElem?_eq_getElem hi]
    simpa using h
  · rw [List.getElem?_append_right (by simpa using hi), List.getElem?_replicate] at h
    split at h <;> cases h
theorem start_at {N : List Str} {vs : List V} {i : Nat} {v : V} (h : vs[i]? = some v) : (L2.start N vs)[i]? = some (some v) := by
  unfold L2.start
  have hi : i < vs.length := (List.getElem?_eq_some_iff.mp h).1
  rw [List.getElem?_append_left (by simpa using hi), List.getElem?_map, h]
  rfl
/-- THE RULE: a def by its body. S: its slots; the lent parameters own what they hold and are never stored -/
theorem fn_ev {P : Program} {w : World} {K : PySem.W.Frag} {mg : Str → Option Value} {base : Heap} {x qual : Str} {stm : Stmt} {f : Addr} {fd : FuncData} {N ps : List Str} {k : Nat} {S0 : ES} {bor ow : List Nat} {B : SS} (F : Fun K x qual stm f fd) (Sc : FnScope N ps (defScope stm))
    (hb : ∀ i, i ∈ bor → i ∈ ow) (hbl : ∀ i, i ∈ bor → i < ps.length) (ho : ∀ i, i ∈ ow → i ∈ bor ∨ ps.length ≤ i)
    (hbody : ∀ (cdv : Value) (A : Around) (outer : List PySem.Env) (s : Shared) (H : Hp) (E : XK), Room k (A.deeper (envOfC qual (defScope stm) s.heap.objs.size f cdv)) →
      Takes (cxOf (L2.CX P w) P w K mg base N qual (defScope stm) f cdv A outer s H E) (fun cls d _ H => E cls d H) →
      EvB (cxOf (L2.CX P w) P w K mg base N qual (defScope stm) f cdv A outer s H E) { S0 with ow := ow, fx := bor } (fun cls d _ H => E cls d H) (defBody stm) B) :
    FnOk P w K mg base (L2.CX P w) (k + 1) f fd ps (spF K S0 ⟨ps.length, bor, runB N.length ps.length bor B⟩) := by
  refine F.okX Sc (fun vs H Q E h => ?_) fun cdv A outer s H vs Q E hr h => ?_
  · obtain ⟨O, ds, hl, _⟩ := h
    exact hl
  · obtain ⟨O, ds, hl, oh, ar, di, hw⟩ := h
    have hl : vs.length = ps.length := hl
    have tk : Takes (cxOf (L2.CX P w) P w K mg base N qual (defScope stm) f cdv A outer s H E) (fun cls d _ H => E cls d H) := takes_of rfl rfl rfl rfl
    obtain ⟨t, p, q⟩ := hbody cdv A outer s H E hr tk
    refine ⟨t, p, ?_⟩
    have hN : ps.length ≤ N.length := by
      have := congrArg List.length Sc.pre
      rw [List.length_take] at this
      omega
    have hds : ds.length = vs.length := ar.length.symm
    let S : ES := { S0 with ow := ow, fx := bor }
    let C : EC := ⟨H, O, fun i => (vs[i]?).getD .non, borA bor vs, []⟩
    have bO : ∀ a, borA bor vs a → O a := by
      rintro a ⟨k, hk, e⟩
      have hkl : k < ds.length := by rw [hds]; exact (List.getElem?_eq_some_iff.mp e).1
      obtain ⟨v, h1, h2⟩ := ar.get (i := k) (d := ds[k]) (by simp [hkl])
      rw [Nat.zero_add, if_pos hk] at h2
      obtain ⟨b, rfl, ob, _⟩ := h2
      rw [e] at h1
      obtain rfl : a = b := V.ref.inj (Option.some.inj h1)
      exact ob
    have hO : C.O S (L2.start N vs) (start0 N.length ds) = O := by
      funext a
      refine propext ⟨fun z => ?_, .inl⟩
      rcases z with z | ⟨i, h1, h2, h3⟩
      · exact z
      · obtain ⟨d, hd⟩ := gt_some h2
        have hd := gt_start0 hd
        have hi : i < ds.length := (List.getElem?_eq_some_iff.mp hd).1
        have ib : i ∈ bor := (ho i h1).resolve_right (by omega)
        obtain ⟨v, h4, h5⟩ := ar.get hd
        rw [Nat.zero_add, if_pos ib] at h5
        obtain ⟨b, rfl, ob, _⟩ := h5
        have h6 := start_at (N := N) h4
        rw [h3] at h6
        obtain rfl : a = b := V.ref.inj (Option.some.inj (Option.some.inj h6))
        exact ob
    have E0 : ER K S C (L2.start N vs) H (start0 N.length ds) := by
      refine ⟨?_, fun i d hi hd => ?_, fun i d hi hd => ?_, fun i j a hi hj h1 h2 h3 h4 => ?_, fun i hi => ?_, fun a u h => .inr (.inl h), fun a h => h, fun a o u h => (nomatch h), oh⟩
      · unfold start0 L2.start
        rw [List.length_append, List.length_append, List.length_map, List.length_map, List.length_replicate, List.length_replicate, hds]
      · obtain ⟨v, h1, h2⟩ := ar.get (gt_start0 hd)
        rw [Nat.zero_add, if_neg fun z => hi (hb i z)] at h2
        rw [hO]
        exact ⟨v, start_at h1, h2⟩
      · have hd := gt_start0 hd
        have hil : i < ds.length := (List.getElem?_eq_some_iff.mp hd).1
        have ib : i ∈ bor := (ho i hi).resolve_right (by omega)
        obtain ⟨v, h1, h2⟩ := ar.get hd
        rw [Nat.zero_add, if_pos ib] at h2
        obtain ⟨a, rfl, oa, ow'⟩ := h2
        rw [hO]
        exact ⟨a, start_at h1, ow', fun z => absurd ib z, .inl ⟨i, ib, h1⟩⟩
      · have low : ∀ {i}, i ∈ ow → gt (start0 N.length ds) i ≠ none → i ∈ bor ∧ ∃ v, vs[i]? = some v := fun {i} hi h => by
          obtain ⟨d, hd⟩ := gt_some h
          have hd := gt_start0 hd
          have hil : i < ds.length := (List.getElem?_eq_some_iff.mp hd).1
          exact ⟨(ho i hi).resolve_right (by omega), vs[i]'(by omega), by simp [show i < vs.length by omega]⟩
        obtain ⟨bi, vi, ei⟩ := low hi h1
        obtain ⟨bj, vj, ej⟩ := low hj h2
        have e3 := start_at (N := N) ei
        have e4 := start_at (N := N) ej
        rw [h3] at e3
        rw [h4] at e4
        cases e3
        cases e4
        exact di i j a bi bj ei ej
      · have hi2 : i ∈ bor := hi
        -- a lent parameter is one of the parameters
        show (L2.start N vs)[i]? = some (some ((vs[i]?).getD .non))
        by_cases hil : i < vs.length
        · have e : vs[i]? = some vs[i] := by simp [hil]
          rw [e]
          exact start_at e
        · exact absurd (hbl i hi2) (by rw [← hl]; exact hil)
    have frb : ∀ {σ' : St} {H' : Hp} {ρ' : Env}, ER K S C σ' H' ρ' → FrB bor vs H H' := fun {σ' H' ρ'} E' => ⟨fun a u h => (E'.fr a u h).imp id fun h => h.resolve_right fun ⟨o, m⟩ => (nomatch m), E'.dom⟩
    have oho : ∀ {σ' : St} {H' : Hp} {ρ' : Env}, ER K S C σ' H' ρ' → OH O H' := fun {σ' H' ρ'} E' a h => E'.o0 a h
    have lower : ∀ {σ' : St} {H' : Hp} {ρ' : Env}, RA (C.O S σ' ρ') H' O H' := sub_ra fun a h => .inl h
    have back : ∀ {σ' : St} {H' : Hp} {ρ' : Env}, ER K S C σ' H' ρ' → (∀ i, i ∈ bor → gt ρ' i ≠ none) → BackR K S0.T O H' bor vs ((ρ'.take ps.length).map fun o => o.getD .non) := fun {σ' H' ρ'} E' hl' k a hk e => by
      obtain ⟨d, hd⟩ := gt_some (hl' k hk)
      obtain ⟨b, e1, o1, _⟩ := E'.own k d (hb k hk) hd
      have e2 : σ'[k]? = some (some ((vs[k]?).getD .non)) := E'.fx k hk
      rw [e, e1] at e2
      obtain rfl : b = a := V.ref.inj (Option.some.inj (Option.some.inj e2))
      refine ⟨d, ?_, o1.adv lower rfl⟩
      rw [gt_eq, List.getD_eq_getElem?_getD] at hd
      rw [List.getElem?_map, List.getElem?_take_of_lt (hbl k hk)]
      cases q : ρ'[k]? with
      | none => rw [q] at hd; cases hd
      | some o =>
        rw [q] at hd
        have hd : o = some d := hd
        rw [hd]
        rfl
    refine q C _ H _ _ E0 ((Wp.bind (show Wp (runB N.length ps.length bor B ds) _ _ from hw)).mono (fun c p hx d σ' H' ρ' E' pay => hx d H' (frb E') (oho E') fun f hf => ?_) fun r1 e1 w1 σ1 H1 E1 A1 => ?_)
    · obtain ⟨dx, v, e1, e2, rp⟩ := pay f hf
      exact ⟨dx, v, e1, e2, rp.adv lower⟩
    · obtain ⟨fl, ρ1⟩ := r1
      cases fl with
      | nx =>
        obtain ⟨lv, q1⟩ := outB_wp w1
        exact q1 _ H1 (frb E1) (oho E1) .non (back E1 lv)
      | ret d =>
        obtain ⟨lv, q1⟩ := outB_wp w1
        exact fun v rp => q1 v H1 (frb E1) (oho E1) (rp.adv lower) (back E1 lv)
      | brk => exact w1.elim
      | cont => exact w1.elim
end EV

namespace EV
open PySem PySem.Spec L2 SX
open PyProof.Rows hiding St

/-! ### calls of own defs -/
section
variable {K : PySem.W.Frag} {S : ES} {C : EC} {σ : St} {H H' : Hp} {ρ : Env}
theorem gt_st_live' {i j : Nat} {x : Option D} (h : gt (st ρ i x) j ≠ none) : (j = i ∧ i < ρ.length ∧ ∃ d, x = some d) ∨ (j ≠ i ∧ gt ρ j ≠ none) := by
  cases x with
  | none =>
    by_cases e : j = i
    · subst e; rw [gt_st_none] at h; exact absurd rfl h
    · rw [gt_st_ne ρ i j _ e] at h; exact .inr ⟨e, h⟩
  | some d => exact (gt_st_live h).imp (fun z => ⟨z.1, z.2, d, rfl⟩) id
theorem M_chg {i : Nat} {d0 : D} {x : Option D} (hd : gt ρ i = some d0) {a : Addr} (h : EC.M S σ (st ρ i x) a) : EC.M S σ ρ a := by
  obtain ⟨j, h1, h2, h3⟩ := h
  rcases gt_st_live' h2 with ⟨rfl, _⟩ | ⟨_, q⟩
  · exact ⟨j, h1, some_ne hd, h3⟩
  · exact ⟨j, h1, q, h3⟩
theorem ER.chg {i : Nat} {d0 : D} {x : Option D} {a : Addr} (E : ER K S C σ H ρ) (hi : i ∈ S.ow) (hd : gt ρ i = some d0) (hs : σ[i]? = some (some (.ref a)))
    (hst : ∀ b u, H b = some u → b = a ∨ H' b = some u) (hdm : ∀ b, H b ≠ none → H' b ≠ none) (hm : ∃ u, Rd H' a u ∧ Mut (some u)) (how : ∀ d, x = some d → OwnAt K S.T (C.O S σ (st ρ i x)) H' a d) :
    ER K S C σ H' (st ρ i x) ∧ Adv (C.mo S σ ρ) H (C.mo S σ (st ρ i x)) H' := by
  have oa : C.O S σ ρ a := .inr ⟨i, hi, some_ne hd, hs⟩
  have oeq : ∀ b, C.O S σ (st ρ i x) b → C.O S σ ρ b := fun b z => z.imp id (M_chg hd)
  have rds : ∀ {b u}, b ≠ a → Rd H b u → Rd H' b u := fun {b u} ne h => by
    rcases h with h | ⟨o, h⟩
    · exact .inl ((hst b _ h).resolve_left ne)
    · exact .inr ⟨o, (hst b _ h).resolve_left ne⟩
  have ra : RA (C.O S σ ρ) H (C.O S σ (st ρ i x)) H' := ⟨fun b w n h => rds (fun e => n (e ▸ oa)) h, fun b z => .inl (oeq b z), hdm⟩
  obtain ⟨b, e1, o1, f1, f2⟩ := E.own i d0 hi hd
  rw [hs] at e1
  obtain rfl : a = b := V.ref.inj (Option.some.inj (Option.some.inj e1))
  obtain ⟨w0, hw0, mw0⟩ := o1.mut
  refine ⟨⟨by rw [st_length]; exact E.len, fun j d' hj hd' => ?_, fun j d' hj hd' => ?_, fun j k b hj hk h1 h2 h3 h4 => ?_, E.fx, fun b w h => ?_, fun b h => hdm b (E.dom b h), fun b o w h => ?_, fun b h => ?_⟩, ⟨fun b w n h => ?_, fun b z => .inl (M_chg hd z), fun b z => .inl (oeq b z), hdm⟩⟩
  · have ne : j ≠ i := fun e => hj (e ▸ hi)
    rw [gt_st_ne ρ i j _ ne] at hd'
    obtain ⟨v, h1, h2⟩ := E.sh j d' hj hd'
    exact ⟨v, h1, h2.adv ra⟩
  · by_cases e : j = i
    · subst e
      have e2 : x = some d' := by
        rw [gt_st_same ρ j _ (gt_lt hd)] at hd'
        exact hd'
      exact ⟨a, hs, how d' e2, f1, f2⟩
    · rw [gt_st_ne ρ i j _ e] at hd'
      obtain ⟨b, h1, h2, h3⟩ := E.own j d' hj hd'
      have nb : b ≠ a := fun z => e (E.dis j i a hj hi (some_ne hd') (some_ne hd) (z ▸ h1) hs)
      obtain ⟨w, hw, _⟩ := h2.mut
      exact ⟨b, h1, h2.adv ra (((hst b _ hw).resolve_left nb).trans hw.symm), h3⟩
  · have lv : ∀ {k}, gt (st ρ i x) k ≠ none → gt ρ k ≠ none := fun {k} h => (gt_st_live' h).elim (fun z => z.1 ▸ some_ne hd) fun z => z.2
    exact E.dis j k b hj hk (lv h1) (lv h2) h3 h4
  · rcases E.fr b w h with q | q | q
    · exact .inl q
    · rcases hst b w q with e | q2
      · subst e
        rcases f2 with f2 | f2
        · exact .inl f2
        · rw [f2.1] at h; cases h
      · exact .inr (.inl q2)
    · exact .inr (.inr q)
  · have hb := E.lks b o w h
    have ne : b ≠ a := fun e => by
      subst e
      rw [hw0] at hb
      cases hb.1
      exact mw0
    exact ⟨(hst b _ hb.1).resolve_left ne, hb.2⟩
  · by_cases e : b = a
    · subst e; exact hm
    · obtain ⟨w, h1, h2⟩ := E.o0 b h
      exact ⟨w, rds e h1, h2⟩
  · have ne : b ≠ a := fun e => n (by subst e; exact ⟨i, hi, some_ne hd, hs⟩)
    exact (hst b _ h).resolve_left ne

/-! ### data that holds nothing that may be owned -/
mutual
def D.flat : D → Bool
  | .non => true
  | .bl _ => true
  | .int _ => true
  | .str _ => true
  | .tup xs => flatL xs
  | .fn _ => true
  | _ => false
def flatL : List D → Bool
  | [] => true
  | d :: ds => d.flat && flatL ds
end
mutual
theorem Rep.flat {T : Nat → Option Addr} {O O' : Addr → Prop} (oh : OH O' H) : ∀ (d : D) (v : V), Rep K T O H v d → d.flat = true → Rep K T O' H v d
  | .non, _, h, _ => by cases h; exact .non
  | .bl b, _, h, _ => by cases h; exact .bl b
  | .int i, _, h, _ => by cases h; exact .int i
  | .str s, _, h, _ => by
    cases h with
    | str _ hs => exact .str s hs
  | .tup ds, _, h, e => by
    cases h with
    | tup h1 h2 =>
      refine .tup ?_ (Reps.flat oh ds _ h2 e)
      rcases h1 with ⟨_, h1⟩ | h1
      · refine .inl ⟨fun z => ?_, h1⟩
        obtain ⟨u, q1, q2⟩ := oh _ z
        rcases h1 with h1 | ⟨o, h1⟩
        · exact not_mut_tup q1 q2 h1
        · rcases q1 with q1 | ⟨o2, q1⟩
          · rw [h1] at q1; cases q1; exact q2
          · rw [h1] at q1; cases q1; exact q2
      · exact .inr h1
  | .fn n, _, h, _ => by
    cases h with
    | fn h => exact .fn h
  | .lst _, _, _, e => nomatch e
  | .dk _, _, _, e => nomatch e
  | .dt _, _, _, e => nomatch e
  | .scr _, _, _, e => nomatch e
theorem Reps.flat {T : Nat → Option Addr} {O O' : Addr → Prop} (oh : OH O' H) : ∀ (ds : List D) (vs : List V), Reps K T O H vs ds → flatL ds = true → Reps K T O' H vs ds
  | [], _, h, _ => by cases h; exact .nil
  | d :: ds, _, h, e => by
    cases h with
    | cons h1 h2 =>
      have e' : (d.flat && flatL ds) = true := e
      rw [Bool.and_eq_true] at e'
      exact .cons (Rep.flat oh d _ h1 e'.1) (Reps.flat oh ds _ h2 e'.2)
end
def D.flatC : D → Bool
  | .lst ds => flatL ds
  | _ => false
theorem OwnAt.flat {T : Nat → Option Addr} {O O' : Addr → Prop} {a : Addr} (oh : OH O' H) : ∀ {d : D}, OwnAt K T O H a d → d.flatC = true → OwnAt K T O' H a d
  | .lst ds, h, e => let ⟨vs, h1, h2⟩ := h; ⟨vs, h1, h2.flat oh _ _ e⟩
  | .non, h, _ => h.elim
  | .bl _, h, _ => h.elim
  | .int _, h, _ => h.elim
  | .str _, h, _ => h.elim
  | .tup _, h, _ => h.elim
  | .fn _, h, _ => h.elim
  | .scr _, h, _ => h.elim
  | .dk _, _, e => nomatch e
  | .dt _, _, e => nomatch e
end
section
/-- the values of arguments; a place is read -/
def rdA (ρ : Env) : List DV → Option (List D)
  | [] => some []
  | .val d :: r => (rdA ρ r).map (d :: ·)
  | .plc i :: r => (gt ρ i).bind fun d => (rdA ρ r).map (d :: ·)
def noPl : List DV → Bool
  | [] => true
  | .val _ :: r => noPl r
  | .plc _ :: _ => false
def hasPl (i : Nat) : List DV → Bool
  | [] => false
  | .val _ :: r => hasPl i r
  | .plc j :: r => i == j || hasPl i r
def gd (b : Bool) : Res Unit := bif b then .ok () else .stuck
theorem gd_wp {α : Type} {b : Bool} {f : Unit → Res α} {X : Nat → D → Prop} {Q : α → Prop} (h : Wp (gd b >>= f) X Q) : b = true ∧ Wp (f ()) X Q := by
  cases b with
  | false => exact h.elim
  | true => exact ⟨rfl, h⟩
def shield (b : Bool) (r : Res (D × List D)) : Res (D × List D) := match r with
  | .ok o => bif b || o.1.flat then .ok o else .stuck
  | .err c p => bif b || p.flat then .err c p else .stuck
  | .stuck => .stuck
theorem shield_wp {α : Type} {b : Bool} {r : Res (D × List D)} {f : D × List D → Res α} {X : Nat → D → Prop} {Q : α → Prop} (h : Wp (shield b r >>= f) X Q) :
    Wp r (fun c p => (b || p.flat) = true ∧ X c p) (fun o => (b || o.1.flat) = true ∧ Wp (f o) X Q) := by
  cases r with
  | ok o =>
    have h' : Wp ((bif b || o.1.flat then .ok o else .stuck : Res (D × List D)) >>= f) X Q := h
    cases q : (b || o.1.flat) with
    | false => rw [q] at h'; exact h'.elim
    | true => rw [q] at h'; exact ⟨q, h'⟩
  | err c p =>
    have h' : Wp ((bif b || p.flat then .err c p else .stuck : Res (D × List D)) >>= f) X Q := h
    cases q : (b || p.flat) with
    | false => rw [q] at h'; exact h'.elim
    | true => rw [q] at h'; exact ⟨q, h'⟩
  | stuck => exact h.elim
def eCall (F : FS) (fs : Env → Res (List DV × Env)) : SE := fun ρ => fs ρ >>= fun r => ofOpt (rdA r.2 r.1) >>= fun ds => gd (decide (ds.length = F.np)) >>= fun _ => shield (noPl r.1) (F.m ds) >>= fun o => .ok (.val o.1, r.2)
def okLent (b : Bool) (ds : List D) : Option D := match ds with
  | d :: _ => bif b || d.flatC then some d else none
  | [] => none
def lentOf : List DV → Option (Nat × List DV)
  | .plc i :: r => some (i, r)
  | _ => none
def eCallC (F : FS) (fs : Env → Res (List DV × Env)) : SE := fun ρ => fs ρ >>= fun r => ofOpt (lentOf r.1) >>= fun l => ofOpt (gt r.2 l.1) >>= fun d0 => ofOpt (rdA r.2 l.2) >>= fun ds => gd (decide (ds.length + 1 = F.np)) >>= fun _ => gd (!hasPl l.1 l.2) >>= fun _ =>
  shield (noPl l.2) (F.m (d0 :: ds)) >>= fun o => ofOpt (okLent (noPl l.2) o.2) >>= fun d => .ok (.val o.1, st r.2 l.1 (some d))
variable {X : Cx} {S : ES} {W : WX} {C : EC} {σ : St} {H : Hp} {ρ : Env}
/-- the addresses of places among the arguments -/
def plA (σ : St) (xs : List DV) (a : Addr) : Prop := ∃ j, hasPl j xs = true ∧ σ[j]? = some (some (.ref a))
theorem noPl_has {xs : List DV} (h : noPl xs = true) (j : Nat) : hasPl j xs = false := by
  induction xs with
  | nil => rfl
  | cons x xs ih =>
    cases x with
    | val d => exact ih h
    | plc i => cases h
theorem args_ok {K : PySem.W.Frag} (E : ER K S C σ H ρ) {O' : Addr → Prop} {bor : List Nat} (hO : ∀ a, O' a → C.O S σ ρ a) : ∀ {k : Nat} {vs : List V} {xs : List DV} {ds : List D}, (∀ j, k ≤ j → j ∉ bor) → (∀ j a, hasPl j xs = true → σ[j]? = some (some (.ref a)) → ¬ O' a) → RVs K S C σ H ρ vs xs → rdA ρ xs = some ds → ArgsR K S.T O' H bor k vs ds
  | _, [], [], ds, _, _, _, e => by cases e; exact trivial
  | k, v :: vs, .val d :: xs, ds, hb, hn, h, e => by
    have e' : (rdA ρ xs).map (d :: ·) = some ds := e
    cases q : rdA ρ xs with
    | none => rw [q] at e'; cases e'
    | some ds' =>
      rw [q] at e'
      obtain rfl : d :: ds' = ds := by simpa using e'
      refine ⟨?_, args_ok (xs := xs) E hO (fun j hj => hb j (by omega)) (fun j a h2 => hn j a h2) h.2 q⟩
      rw [if_neg (hb k (Nat.le_refl _))]
      exact Rep.adv (sub_ra hO) d v h.1
  | k, v :: vs, .plc i :: xs, ds, hb, hn, h, e => by
    have e' : ((gt ρ i).bind fun d => (rdA ρ xs).map (d :: ·)) = some ds := e
    cases q0 : gt ρ i with
    | none => rw [q0] at e'; cases e'
    | some d =>
      rw [q0] at e'
      have e'' : (rdA ρ xs).map (d :: ·) = some ds := e'
      cases q : rdA ρ xs with
      | none => rw [q] at e''; cases e''
      | some ds' =>
        rw [q] at e''
        obtain rfl : d :: ds' = ds := by simpa using e''
        refine ⟨?_, args_ok E hO (fun j hj => hb j (by omega)) (fun j a h2 => hn j a (by show (j == i || hasPl j xs) = true; rw [h2, Bool.or_true])) h.2 q⟩
        rw [if_neg (hb k (Nat.le_refl _))]
        obtain ⟨hi, hs⟩ := h.1
        obtain ⟨a, h1, h2, _⟩ := E.own i d hi q0
        rw [hs] at h1
        obtain rfl : v = .ref a := by simpa using h1
        exact (h2.adv (sub_ra hO) rfl).rep (hn i a (by show (i == i || hasPl i xs) = true; simp) hs)
  | _, [], _ :: _, _, _, _, h, _ => h.elim
  | _, _ :: _, [], _, _, _, h, _ => h.elim
theorem RVs.length {K : PySem.W.Frag} : ∀ {vs : List V} {xs : List DV}, RVs K S C σ H ρ vs xs → vs.length = xs.length
  | [], [], _ => rfl
  | _ :: _, _ :: _, h => congrArg (· + 1) h.2.length
  | [], _ :: _, h => h.elim
  | _ :: _, [], h => h.elim
theorem rdA_length {ρ : Env} : ∀ {xs : List DV} {ds : List D}, rdA ρ xs = some ds → xs.length = ds.length
  | [], ds, e => by cases e; rfl
  | .val d :: xs, ds, e => by
    have e' : (rdA ρ xs).map (d :: ·) = some ds := e
    cases q : rdA ρ xs with
    | none => rw [q] at e'; cases e'
    | some ds' =>
      rw [q] at e'
      obtain rfl : d :: ds' = ds := by simpa using e'
      exact congrArg (· + 1) (rdA_length q)
  | .plc i :: xs, ds, e => by
    have e' : ((gt ρ i).bind fun d => (rdA ρ xs).map (d :: ·)) = some ds := e
    cases q0 : gt ρ i with
    | none => rw [q0] at e'; cases e'
    | some d =>
      rw [q0] at e'
      have e'' : (rdA ρ xs).map (d :: ·) = some ds := e'
      cases q : rdA ρ xs with
      | none => rw [q] at e''; cases e''
      | some ds' =>
        rw [q] at e''
        obtain rfl : d :: ds' = ds := by simpa using e''
        exact congrArg (· + 1) (rdA_length q)
theorem Pay.lift {K : PySem.W.Frag} {S S' : ES} {O O' : Addr → Prop} {c : Nat} {d : Option Addr} {p : D} (hf : S'.fld = S.fld) (hT : S'.T = S.T) (oh : OH O' H) (h : Pay K S O H c d p) (hp : p.flat = true ∨ (∀ a, O' a → O a)) : Pay K S' O' H c d p := fun f e => by
  rw [hf] at e
  obtain ⟨dx, v, e1, e2, rp⟩ := h f e
  refine ⟨dx, v, e1, e2, ?_⟩
  rw [hT]
  rcases hp with hp | hp
  · exact rp.flat oh _ _ hp
  · exact rp.adv (sub_ra hp)
/-- a call: what is promised, at these arguments -/
theorem call0 {K : PySem.W.Frag} {S0 : ES} {F : FS} {vs : List V} {xs : List DV} {ds : List D} {Q : VK} {W : WX} (hS : S0.T = S.T ∧ S0.cls = S.cls ∧ S0.fld = S.fld) (hb : F.bor = []) (E : ER K S C σ H ρ) (rv : RVs K S C σ H ρ vs xs) (rd : rdA ρ xs = some ds) (hl : ds.length = F.np)
    (w : Wp (F.m ds) (fun c p => (noPl xs || p.flat) = true ∧ XOk K S W C c p) (fun o => (noPl xs || o.1.flat) = true ∧ ∀ v H', ER K S C σ H' ρ → Adv (C.mo S σ ρ) H (C.mo S σ ρ) H' → Rep K S.T (C.O S σ ρ) H' v o.1 → Q v H')) :
    spF K S0 F vs H Q (WE W σ) := by
  let O' : Addr → Prop := fun a => C.O S σ ρ a ∧ ¬ plA σ xs a
  have hO : ∀ a, O' a → C.O S σ ρ a := fun a h => h.1
  have oh : OH O' H := fun a h => E.omut a h.1
  have ex : ∀ {H'}, FrB F.bor vs H H' → Ex H H' := fun {H'} f a u h => (f.st a u h).resolve_left fun ⟨k, hk, _⟩ => by rw [hb] at hk; cases hk
  have back : ∀ {p : D}, (noPl xs || p.flat) = true → p.flat = true ∨ (∀ a, C.O S σ ρ a → O' a) := fun {p} h => by
    rw [Bool.or_eq_true] at h
    exact h.symm.imp id fun h a oa => ⟨oa, fun ⟨j, hj, _⟩ => by rw [noPl_has h j] at hj; cases hj⟩
  refine ⟨O', ds, (rv.length.trans (rdA_length rd)).trans hl, oh, ?_, ?_, ?_⟩
  · rw [hb, hS.1]
    exact args_ok E hO (fun _ _ h => nomatch h) (fun j a h1 h2 h3 => h3.2 ⟨j, h1, h2⟩) rv rd
  · rw [hb]
    exact fun k l a h => nomatch h
  · refine w.mono (fun c p hx d H' fr oh' pay => ?_) fun o _ hq v H' fr oh' rp _ => ?_
    · have E1 := E.ext (ex fr)
      show W (S0.cls c) d σ H'
      rw [hS.2.1]
      exact hx.2 d σ H' ρ E1 (pay.lift hS.2.2.symm hS.1.symm E1.omut (back hx.1))
    · have E1 := E.ext (ex fr)
      rw [hS.1] at rp
      refine hq.2 v H' E1 (ex fr).adv ?_
      rcases back hq.1 with h | h
      · exact rp.flat E1.omut _ _ h
      · exact rp.adv (sub_ra h)
theorem callC {K : PySem.W.Frag} {S0 : ES} {F : FS} {v0 : V} {i : Nat} {d0 : D} {vs : List V} {xs : List DV} {ds : List D} {Q : VK} {W : WX} (hS : S0.T = S.T ∧ S0.cls = S.cls ∧ S0.fld = S.fld) (hb : F.bor = [0]) (E : ER K S C σ H ρ) (rv0 : RV K S C σ H ρ v0 (.plc i)) (hd : gt ρ i = some d0) (hp : hasPl i xs = false)
    (rv : RVs K S C σ H ρ vs xs) (rd : rdA ρ xs = some ds) (hl : ds.length + 1 = F.np)
    (w : Wp (F.m (d0 :: ds)) (fun c p => (noPl xs || p.flat) = true ∧ XOk K S W C c p) (fun o => (noPl xs || o.1.flat) = true ∧ ∃ d, okLent (noPl xs) o.2 = some d ∧ ∀ v H', ER K S C σ H' (st ρ i (some d)) → Adv (C.mo S σ ρ) H (C.mo S σ (st ρ i (some d))) H' → Rep K S.T (C.O S σ (st ρ i (some d))) H' v o.1 → Q v H')) :
    spF K S0 F (v0 :: vs) H Q (WE W σ) := by
  obtain ⟨hi, hs⟩ := rv0
  obtain ⟨a, h1, how, _⟩ := E.own i d0 hi hd
  rw [hs] at h1
  obtain rfl : v0 = .ref a := by simpa using h1
  have plo : ∀ {j b}, hasPl j xs = true → σ[j]? = some (some (.ref b)) → j ∈ S.ow → gt ρ j ≠ none → b ≠ a := fun {j b} g1 g2 g3 g4 e => by
    subst e
    have := E.dis j i b g3 hi g4 (some_ne hd) g2 hs
    subst this
    rw [hp] at g1; cases g1
  -- the places among the arguments are live and owned
  have lv : ∀ {vs : List V} {xs : List DV} {ds : List D}, RVs K S C σ H ρ vs xs → rdA ρ xs = some ds → ∀ j, hasPl j xs = true → j ∈ S.ow ∧ gt ρ j ≠ none := by
    intro vs xs
    induction xs generalizing vs with
    | nil => intro ds _ _ j h; cases h
    | cons x xs ih =>
      intro ds h e j hj
      cases vs with
      | nil => exact h.elim
      | cons v vs =>
        cases x with
        | val d =>
          have e' : (rdA ρ xs).map (d :: ·) = some ds := e
          cases q : rdA ρ xs with
          | none => rw [q] at e'; cases e'
          | some ds' => exact ih h.2 q j hj
        | plc i =>
          have e' : ((gt ρ i).bind fun d => (rdA ρ xs).map (d :: ·)) = some ds := e
          cases q0 : gt ρ i with
          | none => rw [q0] at e'; cases e'
          | some d =>
            rw [q0] at e'
            have e'' : (rdA ρ xs).map (d :: ·) = some ds := e'
            cases q : rdA ρ xs with
            | none => rw [q] at e''; cases e''
            | some ds' =>
              have hj' : (j == i || hasPl j xs) = true := hj
              rw [Bool.or_eq_true, beq_iff_eq] at hj'
              rcases hj' with rfl | hj'
              · exact ⟨h.1.1, some_ne q0⟩
              · exact ih h.2 q j hj'
  let O' : Addr → Prop := fun b => C.O S σ ρ b ∧ ¬ plA σ xs b
  have hO : ∀ b, O' b → C.O S σ ρ b := fun b h => h.1
  have oh : OH O' H := fun b h => E.omut b h.1
  have oa : O' a := ⟨.inr ⟨i, hi, some_ne hd, hs⟩, fun ⟨j, h1, h2⟩ => plo h1 h2 (lv rv rd j h1).1 (lv rv rd j h1).2 rfl⟩
  have bA : ∀ b, borA F.bor (.ref a :: vs) b → b = a := fun b ⟨k, hk, e⟩ => by
    rw [hb] at hk
    obtain rfl : k = 0 := by simpa using hk
    have e' : some (V.ref a) = some (V.ref b) := e
    cases e'
    rfl
  have stn : ∀ {H'}, FrB F.bor (.ref a :: vs) H H' → ∀ b u, H b = some u → b = a ∨ H' b = some u := fun {H'} f b u h => (f.st b u h).imp (bA b) id
  have back : ∀ {p : D} {x : Option D}, (noPl xs || p.flat) = true → p.flat = true ∨ (∀ b, C.O S σ (st ρ i x) b → O' b) := fun {p x} h => by
    rw [Bool.or_eq_true] at h
    exact h.symm.imp id fun h b oa => ⟨oa.imp id (M_chg hd), fun ⟨j, hj, _⟩ => by rw [noPl_has h j] at hj; cases hj⟩
  refine ⟨O', d0 :: ds, by rw [List.length_cons, rv.length.trans (rdA_length rd)]; exact hl, oh, ?_, ?_, ?_⟩
  · rw [hb, hS.1]
    refine ⟨?_, args_ok E hO (fun j hj h => by simp at h; omega) (fun j a h1 h2 h3 => h3.2 ⟨j, h1, h2⟩) rv rd⟩
    rw [if_pos (by simp)]
    exact ⟨a, rfl, oa, how.adv (sub_ra hO) rfl⟩
  · rw [hb]
    intro k l b h1 h2 _ _
    simp at h1 h2
    rw [h1, h2]
  · refine w.mono (fun c p hx d H' fr oh' pay => ?_) fun o _ hq v H' fr oh' rp bk => ?_
    · have E1 := (E.chg (x := none) hi hd hs (stn fr) fr.dm (oh' a oa) (fun d h => nomatch h)).1
      show W (S0.cls c) d σ H'
      rw [hS.2.1]
      exact hx.2 d σ H' _ E1 (pay.lift hS.2.2.symm hS.1.symm E1.omut (back hx.1))
    · obtain ⟨fl, d, ok, hq⟩ := hq
      obtain ⟨d', h1, h2⟩ := bk 0 a (by rw [hb]; simp) rfl
      rw [hS.1] at h2 rp
      have hd' : d' = d ∧ (noPl xs || d.flatC) = true := by
        unfold okLent at ok
        cases q : o.2 with
        | nil => rw [q] at ok; cases ok
        | cons e r =>
          rw [q] at ok h1
          have h1 : some e = some d' := h1
          cases h1
          have ok : (bif noPl xs || d'.flatC then some d' else none) = some d := ok
          cases z : (noPl xs || d'.flatC) with
          | false => rw [z] at ok; cases ok
          | true => rw [z] at ok; cases ok; exact ⟨rfl, z⟩
      obtain ⟨rfl, fl2⟩ := hd'
      -- what is owned behind the call
      have oh2 : OH (C.O S σ (st ρ i (some d'))) H' := fun b z => by
        have z' : C.O S σ ρ b := z.imp id (M_chg hd)
        by_cases e : b = a
        · subst e; exact oh' b oa
        · obtain ⟨u, q1, q2⟩ := E.omut b z'
          refine ⟨u, ?_, q2⟩
          rcases q1 with q1 | ⟨ob, q1⟩
          · exact .inl ((stn fr b _ q1).resolve_left e)
          · exact .inr ⟨ob, (stn fr b _ q1).resolve_left e⟩
      have how2 : OwnAt K S.T (C.O S σ (st ρ i (some d'))) H' a d' := by
        rw [Bool.or_eq_true] at fl2
        rcases fl2 with h | h
        · exact h2.adv (sub_ra fun b oa => ⟨oa.imp id (M_chg hd), fun ⟨j, hj, _⟩ => by rw [noPl_has h j] at hj; cases hj⟩) rfl
        · exact h2.flat oh2 h
      have E1 := E.chg (x := some d') hi hd hs (stn fr) fr.dm (oh' a oa) fun d h => by cases h; exact how2
      refine hq v H' E1.1 E1.2 ?_
      rcases back (x := some d') fl with h | h
      · exact rp.flat E1.1.omut _ _ h
      · exact rp.adv (sub_ra h)
/-- a def that may be called by its name -/
structure CalF (P : Program) (w : World) (K : PySem.W.Frag) (mg : Str → Option Value) (base : Heap) (S0 : ES) (k : Nat) (x : Str) (F : FS) : Prop where
  ex : ∃ (f : Addr) (fd : FuncData) (ps : List Str), FnOk P w K mg base (L2.CX P w) k f fd ps (spF K S0 F) ∧ mg x = some (.ref f) ∧ PySem.W.keepIn K (.ref f) = true ∧ Binds K fd ps []
variable {S0 : ES} {F : FS} {x : Str} {k j : Nat} {p pos : Pos} {e : Expr} {es : List Expr} {fs : Env → Res (List DV × Env)}
theorem ev_call (tk : Takes X W) (c : CalF X.prog X.w X.K X.mg X.base S0 k x F) (hS : S0.T = S.T ∧ S0.cls = S.cls ∧ S0.fld = S.fld) (hb : F.bor = []) (hr : Room j X.A) (hk : k ≤ j) (hg : Gl X x) (ha : EvA X S W (e :: es) fs)
    (hdb : (x == ("__debug__" : Str)) = false := by decide) (he : starEach (e :: es) X.env = (false, eval e X.env) :: starEach es X.env := by rfl) (hpl : (backTo pos (starEach es X.env)).any (·.1) = false := by rfl) :
    EvE X S W (.Call (.Name x p) (e :: es) [] pos) (eCall F fs) := by
  obtain ⟨f, fd, ps, G, hm, kp, b⟩ := c.ex
  obtain ⟨t, pt, q⟩ := ha
  refine ⟨_, pe_callS G (hr.mono hk) hg hm kp b (fun σ => passAt tk σ) pt hdb he hpl, fun C σ H ρ Q E w => ?_⟩
  refine q C σ H ρ _ E ((Wp.bind w).mono (fun _ _ h => h) fun r1 _ w1 vs H1 E1 A1 R1 => ?_)
  obtain ⟨ds, e1, w2⟩ := opt_wp w1
  obtain ⟨e2, w3⟩ := gd_wp w2
  exact call0 hS hb E1 R1 e1 (of_decide_eq_true e2) ((shield_wp w3).mono (fun c p h => h) fun o _ h => ⟨h.1, fun v H' E2 A2 rp => h.2 v H' E2 (A1.trans A2) rp⟩)
theorem ev_callC (tk : Takes X W) (c : CalF X.prog X.w X.K X.mg X.base S0 k x F) (hS : S0.T = S.T ∧ S0.cls = S.cls ∧ S0.fld = S.fld) (hb : F.bor = [0]) (hr : Room j X.A) (hk : k ≤ j) (hg : Gl X x) (ha : EvA X S W (e :: es) fs)
    (hdb : (x == ("__debug__" : Str)) = false := by decide) (he : starEach (e :: es) X.env = (false, eval e X.env) :: starEach es X.env := by rfl) (hpl : (backTo pos (starEach es X.env)).any (·.1) = false := by rfl) :
    EvE X S W (.Call (.Name x p) (e :: es) [] pos) (eCallC F fs) := by
  obtain ⟨f, fd, ps, G, hm, kp, b⟩ := c.ex
  obtain ⟨t, pt, q⟩ := ha
  refine ⟨_, pe_callS G (hr.mono hk) hg hm kp b (fun σ => passAt tk σ) pt hdb he hpl, fun C σ H ρ Q E w => ?_⟩
  refine q C σ H ρ _ E ((Wp.bind w).mono (fun _ _ h => h) fun r1 _ w1 vs H1 E1 A1 R1 => ?_)
  obtain ⟨⟨i, xs⟩, e0, w2⟩ := opt_wp w1
  obtain ⟨d0, e1, w3⟩ := opt_wp w2
  obtain ⟨ds, e2, w4⟩ := opt_wp w3
  obtain ⟨e3, w5⟩ := gd_wp w4
  obtain ⟨e4, w6⟩ := gd_wp w5
  have e0' : r1.1 = .plc i :: xs := by
    unfold lentOf at e0
    split at e0
    · rename_i h
      cases e0
      exact h
    · cases e0
  rw [e0'] at R1
  cases vs with
  | nil => exact R1.elim
  | cons v0 vs =>
    refine callC hS hb E1 R1.1 e1 (by simpa using e4) R1.2 e2 (of_decide_eq_true e3) ((shield_wp w6).mono (fun c p h => h) fun o _ h => ⟨h.1, ?_⟩)
    obtain ⟨d, e5, w7⟩ := opt_wp h.2
    exact ⟨d, e5, fun v H' E2 A2 rp => w7 v H' E2 (A1.trans A2) rp⟩
end
end EV

namespace EV
open PySem PySem.Spec L2 SX
open PyProof.Rows hiding St

/-! ### tuple * int, the small cases -/
theorem tuple_mul1 (l : Addr) (items : Array Value) (n : Nat) (dd : Option Addr) (sl : Array (Option Value)) (x : Int) (u : Tok) (c0 : (decide (x < -(2 ^ 63)) || decide (x ≥ 2 ^ 63)) = false) (c1 : (items.isEmpty || x == 1) = true) :
    Meets (Builtin.«tuple.__mul__» ⟨[.ref l, .int x u], []⟩) (fun _ R s => s.heap.get? l = some { cls := .type "tuple", dict := dd, data := .seq items n, slots := sl } ∧ R (.ok (.ret (Value.ref l))) s) :=
  .of_wp fun prog w A R s h => by
    obtain ⟨hp, g, d, tk, os⟩ := s
    obtain ⟨hl, h⟩ := h
    have f1 := AutoSeq1.idx_int
    wp_walk using wpAny_loadPart' hl
    repeat (first
      | (refine wpAny_ite_false (decide_eq_false (by rw [c0]; exact Bool.false_ne_true)) ?_; wp_walk using wpAny_loadPart' hl)
      | (refine wpAny_ite_true (decide_eq_true c1) ?_; wp_walk using wpAny_loadPart' hl))
    exact ⟨_, rfl, h⟩
theorem tuple_mul0 (l : Addr) (items : Array Value) (n : Nat) (dd : Option Addr) (sl : Array (Option Value)) (x : Int) (u : Tok) (c0 : (decide (x < -(2 ^ 63)) || decide (x ≥ 2 ^ 63)) = false) (c1 : (items.isEmpty || x == 1) = false) (c2 : (decide (x ≤ 0) || items.isEmpty) = true) :
    Meets (Builtin.«tuple.__mul__» ⟨[.ref l, .int x u], []⟩) (fun _ R s => s.heap.get? l = some { cls := .type "tuple", dict := dd, data := .seq items n, slots := sl } ∧
      R (.ok (.ret (Value.ref s.heap.objs.size))) { s with heap := s.heap.push { cls := Value.type "tuple", data := Data.seq #[] }, toks := s.toks }) :=
  .of_wp fun prog w A R s h => by
    obtain ⟨hp, g, d, tk, os⟩ := s
    obtain ⟨hl, h⟩ := h
    have f1 := AutoSeq1.idx_int
    wp_walk using wpAny_loadPart' hl
    repeat (first
      | (refine wpAny_ite_false (decide_eq_false (by rw [c0]; exact Bool.false_ne_true)) ?_; wp_walk using wpAny_loadPart' hl)
      | (refine wpAny_ite_false (decide_eq_false (by rw [c1]; exact Bool.false_ne_true)) ?_; wp_walk using wpAny_loadPart' hl)
      | (refine wpAny_ite_true (decide_eq_true c2) ?_; wp_walk using wpAny_loadPart' hl))
    exact ⟨_, rfl, h⟩
section
variable {X : Cx} {S : ES} {W : WX} {pos : Pos}
def rRep1 (K : PySem.W.Frag) : R2 := fun x y H Q => ∃ l k xs, x = .ref l ∧ y = .int k ∧ SqT K H l xs ∧ (xs = [] ∨ k = 1) ∧ -1000 ≤ k ∧ k ≤ 1000 ∧ Q (.ref l) H
theorem op_rep1 : OpR X (binaryOp .Mult) (rRep1 X.K) := by
  intro pins s σ H x y v u Q I rx ry h
  obtain ⟨l, k, xs, rfl, rfl, hT, hc, h1, h2, q⟩ := h
  cases rx
  obtain ⟨t, rfl⟩ := ry
  obtain ⟨its, r, ⟨⟨cls, dd, data, sl⟩, ho, hc2, n, hd⟩, hs⟩ := I.tuple hT
  simp only at hc2 hd
  subst hc2 hd
  have c0 : (decide (k < -(2 ^ 63)) || decide (k ≥ 2 ^ 63)) = false := by
    rw [decide_eq_false (by omega), decide_eq_false (by omega)] <;> rfl
  have c1 : (its.toArray.isEmpty || k == 1) = true := by
    rcases hc with rfl | rfl
    · cases r; rfl
    · rw [Bool.or_eq_true]; exact .inr rfl
  refine wpAny_binaryOp_repeat_ref (T := "tuple") (U := "int") (by decide) ⟨_, ho, rfl⟩ (fun s' => typeIs_int s' k t) noFill_tuple_mul F.fills_int_mul F.slot_int_rmul repeat_tuple F.slot_int_index.lookup
    (call_meets F.slot_int_rmul (typeIs_int s k t) F.entry_int_rmul (F.args_int_rmul_2 _ _) (int_rmul_tuple k t l its.toArray n dd sl)
      ⟨ho, rfl, ⟨_, ho, rfl⟩, call_meets F.slot_tuple_mul ⟨_, ho, rfl⟩ F.entry_tuple_mul (F.args_tuple_mul_2 _ _) (tuple_mul1 l its.toArray n dd sl k t c0 c1) ⟨ho, ?_⟩⟩)
  exact ⟨.ref l, H, I, rfl, q⟩
def rRep0 (K : PySem.W.Frag) : R2 := fun x y H Q => ∃ l k xs, x = .ref l ∧ y = .int k ∧ SqT K H l xs ∧ xs ≠ [] ∧ -1000 ≤ k ∧ k ≤ 0 ∧ ∀ p, H p = none → Q (.ref p) (upd H p (.tup []))
theorem op_rep0 : OpR X (binaryOp .Mult) (rRep0 X.K) := by
  intro pins s σ H x y v u Q I rx ry h
  obtain ⟨l, k, xs, rfl, rfl, hT, hne, h1, h2, q⟩ := h
  cases rx
  obtain ⟨t, rfl⟩ := ry
  obtain ⟨its, r, ⟨⟨cls, dd, data, sl⟩, ho, hc2, n, hd⟩, hs⟩ := I.tuple hT
  simp only at hc2 hd
  subst hc2 hd
  have c0 : (decide (k < -(2 ^ 63)) || decide (k ≥ 2 ^ 63)) = false := by
    rw [decide_eq_false (by omega), decide_eq_false (by omega)] <;> rfl
  have hi : its.toArray.isEmpty = false := by
    cases r with
    | nil => exact absurd rfl hne
    | cons a b => rfl
  have c1 : (its.toArray.isEmpty || k == 1) = false := by
    rw [hi, Bool.false_or]
    exact beq_eq_false_iff_ne.mpr (by omega)
  have c2 : (decide (k ≤ 0) || its.toArray.isEmpty) = true := by
    rw [decide_eq_true h2]; rfl
  refine wpAny_binaryOp_repeat_ref (T := "tuple") (U := "int") (by decide) ⟨_, ho, rfl⟩ (fun s' => typeIs_int s' k t) noFill_tuple_mul F.fills_int_mul F.slot_int_rmul repeat_tuple F.slot_int_index.lookup
    (call_meets F.slot_int_rmul (typeIs_int s k t) F.entry_int_rmul (F.args_int_rmul_2 _ _) (int_rmul_tuple k t l its.toArray n dd sl)
      ⟨ho, rfl, ⟨_, ho, rfl⟩, call_meets F.slot_tuple_mul ⟨_, ho, rfl⟩ F.entry_tuple_mul (F.args_tuple_mul_2 _ _) (tuple_mul0 l its.toArray n dd sl k t c0 c1 c2) ⟨ho, ?_⟩⟩)
  refine ⟨.ref s.heap.objs.size, _, I.laid (t' := s.toks) (o := .tup []) (fun b ob q => Heap.get?_push_of_some _ q) (Nat.le_refl _) ?_, rfl, q _ (I.hok.fresh (Nat.le_refl _))⟩
  exact ⟨Nat.zero_le _, [], .nil, IsTup.new _ _⟩
def repOk (k : Int) (n : Nat) : Bool := decide (-1000 ≤ k) && decide (k ≤ 1000) && decide (n ≤ 1000)
theorem repOk_of {k : Int} {n : Nat} (h : repOk k n = true) : -1000 ≤ k ∧ k ≤ 1000 ∧ n ≤ 1000 := by
  unfold repOk at h
  rw [Bool.and_eq_true, Bool.and_eq_true, decide_eq_true_eq, decide_eq_true_eq, decide_eq_true_eq] at h
  exact ⟨h.1.1, h.1.2, h.2⟩
def rpt {α : Type} (k : Int) (xs : List α) : List α := (List.replicate k.toNat xs).flatten
theorem rpt_nil {α : Type} (k : Int) : rpt k ([] : List α) = [] := by simp [rpt]
theorem rpt_neg {α : Type} {k : Int} (h : k ≤ 0) (xs : List α) : rpt k xs = [] := by
  have : k.toNat = 0 := by omega
  simp [rpt, this]
theorem rpt_one {α : Type} (xs : List α) : rpt 1 xs = xs := by simp [rpt]
def onTI (f : List D → Int → Option D) : D → D → Option D
  | .tup i, .int j => f i j
  | _, _ => none
theorem onTI_some {f : List D → Int → Option D} {a b d : D} (h : onTI f a b = some d) : ∃ i j, a = .tup i ∧ b = .int j ∧ f i j = some d := by
  cases a <;> cases b <;> first | exact ⟨_, _, rfl, rfl, h⟩ | cases h
def onLI (f : List D → Int → Option D) : D → D → Option D
  | .lst i, .int j => f i j
  | _, _ => none
theorem onLI_some {f : List D → Int → Option D} {a b d : D} (h : onLI f a b = some d) : ∃ i j, a = .lst i ∧ b = .int j ∧ f i j = some d := by
  cases a <;> cases b <;> first | exact ⟨_, _, rfl, rfl, h⟩ | cases h
def onSI (f : List Nat → Int → Option D) : D → D → Option D
  | .str i, .int j => f i j
  | _, _ => none
theorem onSI_some {f : List Nat → Int → Option D} {a b d : D} (h : onSI f a b = some d) : ∃ i j, a = .str i ∧ b = .int j ∧ f i j = some d := by
  cases a <;> cases b <;> first | exact ⟨_, _, rfl, rfl, h⟩ | cases h
theorem Reps.rep {K : PySem.W.Frag} {T : Nat → Option Addr} {O : Addr → Prop} {H : Hp} {vs : List V} {ds : List D} (h : Reps K T O H vs ds) : ∀ n : Nat, Reps K T O H (List.replicate n vs).flatten (List.replicate n ds).flatten
  | 0 => .nil
  | n + 1 => by
    rw [List.replicate_succ, List.replicate_succ, List.flatten_cons, List.flatten_cons]
    exact h.append (h.rep n)
theorem Reps.rpt {K : PySem.W.Frag} {T : Nat → Option Addr} {O : Addr → Prop} {H : Hp} {vs : List V} {ds : List D} (h : Reps K T O H vs ds) (k : Int) : Reps K T O H (EV.rpt k vs) (EV.rpt k ds) := h.rep k.toNat
def repT : List D → Int → Option D := fun xs k => if repOk k xs.length = true then some (.tup (rpt k xs)) else none
theorem od_repT : OpD X (binaryOp .Mult) (onTI repT) := by
  refine ⟨_, (op_rep1 (X := X)).or ((op_rep0 (X := X)).or op_repT), fun T O H v1 v2 d1 d2 d Q oh r1 r2 e w => ?_⟩
  obtain ⟨xs, k, rfl, rfl, e1⟩ := onTI_some e
  unfold repT at e1
  split at e1
  · rename_i hk
    cases e1
    obtain ⟨h1, h2, h3⟩ := repOk_of hk
    obtain ⟨a, vs, rfl, ht, hr⟩ := r1.tup
    obtain rfl := r2.int
    have hl := hr.length
    by_cases c1 : vs = [] ∨ k = 1
    · refine .inl ⟨a, k, vs, rfl, rfl, ht.sq, c1, h1, h2, w _ H (Ex.refl H) ?_⟩
      rcases c1 with c1 | c1
      · subst c1
        cases hr
        rw [rpt_nil]
        exact .tup ht .nil
      · subst c1
        rw [rpt_one]
        exact .tup ht hr
    · have cn : vs ≠ [] := fun z => c1 (.inl z)
      have ck : k ≠ 1 := fun z => c1 (.inr z)
      by_cases c0 : k ≤ 0
      · refine .inr (.inl ⟨a, k, vs, rfl, rfl, ht.sq, cn, h1, c0, fun p hp => w _ _ (Ex.new hp) ?_⟩)
        rw [rpt_neg c0]
        exact .tup (.inl ⟨oh.fresh hp, .inl upd_same⟩) .nil
      · refine .inr (.inr ⟨a, k, vs, rfl, rfl, ht.sq, cn, by omega, h2, by omega, fun p hp => w _ _ (Ex.new hp) ?_⟩)
        exact .tup (.inl ⟨oh.fresh hp, .inl upd_same⟩) ((hr.rpt k).adv (Ex.new hp).ra)
  · cases e1
/-- a text times an int -/
theorem foldl_repS (l : List Nat) : ∀ (m : Nat) (acc : List Nat), (List.replicate m (SX.S l).cps).foldl (· ++ ·) acc.toArray = (acc ++ (List.replicate m l).flatten).toArray
  | 0, acc => by simp
  | m + 1, acc => by
    rw [List.replicate_succ, List.foldl_cons, List.replicate_succ, List.flatten_cons]
    have e : acc.toArray ++ (SX.S l).cps = (acc ++ l).toArray := by simp [SX.S]
    rw [e, foldl_repS l m (acc ++ l), List.append_assoc]
theorem rpt_len {α : Type} (k : Int) (xs : List α) : (rpt k xs).length = k.toNat * xs.length := by
  unfold rpt
  rw [List.length_flatten]
  simp
theorem op_repS : OpR X (binaryOp .Mult) (fun x y H Q => ∃ s k, x = .str (SX.S s) ∧ y = .int k ∧ repOk k s.length = true ∧ Q (.str (SX.S (rpt k s))) H) := by
  intro pins s σ H x y v u Q I rx ry h
  obtain ⟨z, k, rfl, rfl, hk, q⟩ := h
  obtain ⟨h1, h2, h3⟩ := repOk_of hk
  obtain ⟨t, rfl⟩ := rx
  obtain ⟨t2, rfl⟩ := ry
  have c0 : (decide (k < -(2 ^ 63 : Int)) || decide (k ≥ 2 ^ 63)) = false := by
    rw [decide_eq_false (by omega), decide_eq_false (by omega)] <;> rfl
  have len : (SX.S z).length = z.length := S_len z
  have sm : k.toNat * z.length ≤ 1000 * 1000 := Nat.mul_le_mul (by omega) h3
  refine P.mul_str c0 (fun a b => ?_) (fun a b => ?_) ?_
  · have : (1000 : Int) ≤ (2 ^ 63 - 1) / k := (Int.le_ediv_iff_mul_le (by omega)).mpr (by omega)
    rw [len]
    omega
  · unfold Builtin.Str.tooLong
    rw [len, sizeLine_eq, Nat.mul_comm]
    exact decide_eq_false (by omega)
  · split
    · rename_i a
      rw [rpt_neg (by omega)] at q
      exact ⟨by decide, .str Str.empty, H, I.tok _, ⟨_, rfl⟩, q⟩
    · split
      · rename_i a b
        have e : rpt k z = z := by
          rw [Bool.or_eq_true, beq_iff_eq, beq_iff_eq] at b
          rcases b with rfl | b
          · exact rpt_one z
          · rw [len] at b
            obtain rfl := List.eq_nil_of_length_eq_zero b
            exact rpt_nil k
        rw [e] at q
        exact ⟨.str (SX.S z), H, I, ⟨t, rfl⟩, q⟩
      · have e : (List.replicate k.toNat (SX.S z).cps).foldl (· ++ ·) #[] = (SX.S (rpt k z)).cps := by
          have := foldl_repS z k.toNat []
          rw [List.nil_append] at this
          exact this
        rw [e]
        refine ⟨?_, .str (SX.S (rpt k z)), H, I.tok _, ⟨_, rfl⟩, q⟩
        show (SX.S (rpt k z)).length ≤ sizeLine
        rw [S_len, rpt_len, sizeLine_eq]
        omega
def repS : List Nat → Int → Option D := fun xs k => if repOk k xs.length = true then some (.str (rpt k xs)) else none
theorem rpt_mem {α : Type} {k : Int} {xs : List α} {c : α} (h : c ∈ rpt k xs) : c ∈ xs := by
  unfold rpt at h
  obtain ⟨l, h1, h2⟩ := List.mem_flatten.mp h
  rw [List.eq_of_mem_replicate h1] at h2
  exact h2
theorem od_repS : OpD X (binaryOp .Mult) (onSI repS) := by
  refine ⟨_, op_repS, fun T O H v1 v2 d1 d2 d Q oh r1 r2 e w => ?_⟩
  obtain ⟨xs, k, rfl, rfl, e1⟩ := onSI_some e
  unfold repS at e1
  split at e1
  · rename_i hk
    cases e1
    exact ⟨xs, k, r1.str, r2.int, hk, w _ H (Ex.refl H) (.str _ fun c hc => r1.okS c (rpt_mem hc))⟩
  · cases e1
/-- a list times an int: a new list -/
def rRepL : R2 := fun x y H Q => ∃ l k xs, x = .ref l ∧ y = .int k ∧ Rd H l (.lst xs) ∧ repOk k xs.length = true ∧ ∀ p, H p = none → Q (.ref p) (upd H p (.lst (rpt k xs)))
theorem op_repL : OpR X (binaryOp .Mult) rRepL := by
  intro pins s σ H x y v u Q I rx ry h
  obtain ⟨l, k, xs, rfl, rfl, hH, hk, q⟩ := h
  obtain ⟨h1, h2, h3⟩ := repOk_of hk
  cases rx
  obtain ⟨t, rfl⟩ := ry
  obtain ⟨z, its, n, r, hl, e⟩ := rd_lst hH I.hok
  have sm : xs.length * k.toNat ≤ 1000 * 1000 := Nat.mul_le_mul h3 (by omega)
  have hz : xs.length * k.toNat ≤ sizeLine := by rw [sizeLine_eq]; omega
  have hlen : its.toArray.size * k.toNat ≤ sizeLine := by rw [List.size_toArray, ← hl]; exact hz
  have hcap : ¬ its.toArray.size * k.toNat > (2 ^ 63 - 1) / 8 := by
    have : (sizeLine : Nat) ≤ (2 ^ 63 - 1) / 8 := by decide
    omega
  have hfit : ¬ (!Builtin.List.listFitsIndex k) = true := by
    rw [fitsIndex_both (by omega) (by omega)]
    exact Bool.false_ne_true
  have hlong : ¬ Builtin.List.listTooLong (its.toArray.size * k.toNat) = true := by
    rw [notLongL hlen]
    exact Bool.false_ne_true
  have hnew : List.foldl (fun x1 x2 => x1 ++ x2) #[] (List.replicate (if its.toArray.isEmpty = true then 0 else k.toNat) its.toArray) = (List.replicate k.toNat its).flatten.toArray := by
    have f0 : ∀ m : Nat, List.foldl (fun x1 x2 => x1 ++ x2) #[] (List.replicate m its.toArray) = (List.replicate m its).flatten.toArray := fun m => by
      have := foldl_rep its m []
      rw [List.nil_append] at this
      exact this
    rw [f0]
    cases its with
    | nil => simp
    | cons a r' => rw [if_neg (by simp)]
  refine wpAny_binaryOp_repeat_ref (T := "list") (U := "int") (by decide) ⟨_, e, rfl⟩ (fun s' => typeIs_int s' k t) noFill_list_mul F.fills_int_mul F.slot_int_rmul repeat_list F.slot_int_index.lookup
    (call_meets F.slot_int_rmul (typeIs_int s k t) F.entry_int_rmul (F.args_int_rmul_2 _ _) (int___rmul___int_list k t l its.toArray n)
      ⟨e, rfl, ⟨_, e, rfl⟩, call_meets F.slot_list_mul ⟨_, e, rfl⟩ F.entry_list_mul (F.args_list_mul_2 _ _) (AutoListH.list___mul___list_int_3 l its.toArray n k t hfit hcap hlong) ⟨e, ?_⟩⟩)
  rw [hnew]
  exact ⟨.ref _, _, I.lnew (t' := s.toks) (r.rep k.toNat) (by rw [PyProof.Rows.lm_len_rep_flat, Nat.mul_comm]; exact hz), rfl, q _ I.fresh⟩
def repL : List D → Int → Option D := fun xs k => if repOk k xs.length = true then some (.lst (rpt k xs)) else none
theorem od_repL : OpD X (binaryOp .Mult) (onLI repL) := by
  refine ⟨_, op_repL, fun T O H v1 v2 d1 d2 d Q oh r1 r2 e w => ?_⟩
  obtain ⟨xs, k, rfl, rfl, e1⟩ := onLI_some e
  unfold repL at e1
  split at e1
  · rename_i hk
    cases e1
    obtain ⟨a, vs, rfl, ht, hr⟩ := r1.lst
    refine ⟨a, k, vs, rfl, r2.int, ht, by rw [hr.length]; exact hk, fun p hp => w _ _ (Ex.new hp) ?_⟩
    exact .lst (oh.fresh hp) (.inl upd_same) ((hr.rpt k).adv (Ex.new hp).ra)
  · cases e1
def dMul : D → D → Option D
  | .int i, .int j => dMulI (.int i) (.int j)
  | .tup xs, .int k => repT xs k
  | .str xs, .int k => repS xs k
  | .lst xs, .int k => repL xs k
  | _, _ => none
theorem od_mul : OpD X (binaryOp .Mult) dMul := by
  refine ((int_opDC (f := binaryOp .Mult) op_mul).or (od_repT.or (od_repS.or od_repL))).imp fun a b d h => ?_
  unfold dMul at h
  split at h <;> simp_all [onII, onTI, onSI, onLI, dMulI]

/-! ### operations that make a new list -/
def OpF (X : Cx) (f : Value → Value → Sem Value) (g : D → D → Option D) : Prop :=
  ∃ r : R2, OpR X f r ∧ ∀ (T : Nat → Option Addr) (O : Addr → Prop) (H : Hp) v1 v2 d1 d2 d (Q : VK), OH O H → RT X.K T O H v1 d1 → RT X.K T O H v2 d2 → g d1 d2 = some d → (∀ p vs ds, H p = none → d = .lst ds → Reps X.K T O H vs ds → Q (.ref p) (upd H p (.lst vs))) → r v1 v2 H Q
theorem of_repL : OpF X (binaryOp .Mult) (onLI repL) := by
  refine ⟨_, op_repL, fun T O H v1 v2 d1 d2 d Q oh r1 r2 e w => ?_⟩
  obtain ⟨xs, k, rfl, rfl, e1⟩ := onLI_some e
  unfold repL at e1
  split at e1
  · rename_i hk
    cases e1
    obtain ⟨a, vs, rfl, ht, hr⟩ := r1.lst
    exact ⟨a, k, vs, rfl, r2.int, ht, by rw [hr.length]; exact hk, fun p hp => w p _ _ hp rfl (hr.rpt k)⟩
  · cases e1
theorem of_addL : OpF X (binaryOp .Add) (onLL addL) := by
  refine ⟨_, op_catL, fun T O H v1 v2 d1 d2 d Q oh h1 h2 e q => ?_⟩
  obtain ⟨a, b, rfl, rfl, e'⟩ := onLL_some e
  unfold addL at e'
  split at e'
  · rename_i hl
    cases e'
    obtain ⟨p1, vs1, rfl, s1, r1⟩ := h1.lst
    obtain ⟨p2, vs2, rfl, s2, r2⟩ := h2.lst
    exact ⟨p1, p2, vs1, vs2, rfl, rfl, s1, s2, by rw [r1.length, r2.length, lim_eq]; exact hl, fun p hp => q p _ _ hp rfl (r1.append r2)⟩
  · cases e'
variable {a b c : Expr} {fa fb fc : SE} {g : D → D → Option D}
def fBin (g : D → D → Option D) (f1 f2 : SE) : Env → Res (D × Env) := fun ρ => f1 ρ >>= fun r1 => f2 r1.2 >>= fun r2 => deref r2.2 r1.1 >>= fun d1 => deref r2.2 r2.1 >>= fun d2 => ofOpt (g d1 d2) >>= fun d => .ok (d, r2.2)
theorem ef_bin {op : Operator} (ho : OpF X (binaryOp op) g) (ha : EvE X S W a fa) (hb : EvE X S W b fb) : EvF X S W (.BinOp a op b pos) (fBin g fa fb) := by
  obtain ⟨ta, pa, qa⟩ := ha
  obtain ⟨tb, pb, qb⟩ := hb
  obtain ⟨r, hr, qr⟩ := ho
  refine ⟨_, pe_op hr pa pb, fun C σ H ρ Q E w => ?_⟩
  refine qa C σ H ρ _ E ((Wp.bind w).mono (fun _ _ h => h) fun r1 _ w1 v1 H1 E1 A1 R1 => ?_)
  refine qb C σ H1 r1.2 _ E1 ((Wp.bind w1).mono (fun _ _ h => h) fun r2 _ w2 v2 H2 E2 A2 R2 => ?_)
  obtain ⟨d1, e1, w3⟩ := deref_wp w2
  obtain ⟨d2, e2, w4⟩ := deref_wp w3
  obtain ⟨d, e, w5⟩ := opt_wp w4
  refine qr S.T _ H2 v1 v2 d1 d2 d Q E2.omut ((R1.adv A2).rt E2 e1) (R2.rt E2 e2) e fun p vs ds hp ed rs => ?_
  have x : Ex H2 (upd H2 p (.lst vs)) := Ex.new hp
  refine w5 p _ ((A1.trans A2).back hp) (OH.fresh E2.omut hp) (E2.alloc hp trivial) ((A1.trans A2).trans x.adv) ?_
  show OwnAt _ _ _ _ p d
  rw [ed]
  exact ⟨vs, upd_same, rs.adv (ra_plus hp x)⟩

/-! ### a[i] -/
def dIx : D → D → Option D
  | .lst xs, .int i => atI xs i
  | .tup xs, .int i => atI xs i
  | .str s, .int i => if s.length ≤ LIM then (atI s i).map fun c => .str [c] else none
  | _, _ => none
theorem atI_map {α β : Type} (f : α → β) (xs : List α) (i : Int) : atI (xs.map f) i = (atI xs i).map f := by
  unfold atI
  rw [List.length_map]
  cases ixN xs.length i with
  | none => rfl
  | some j =>
    show (xs.map f)[j]? = (xs[j]?).map f
    rw [List.getElem?_map]
theorem Reps.atI {K : PySem.W.Frag} {T : Nat → Option Addr} {O : Addr → Prop} {H : Hp} {vs : List V} {ds : List D} {i : Int} {d : D} (h : Reps K T O H vs ds) (e : L2.atI ds i = some d) : ∃ v, L2.atI vs i = some v ∧ Rep K T O H v d := by
  unfold L2.atI at e ⊢
  rw [h.length]
  cases q : ixN ds.length i with
  | none => rw [q] at e; cases e
  | some j => rw [q] at e; exact h.get e
theorem S_toList (s : List Nat) : (SX.S s).cps.toList = s := by simp [SX.S]
theorem atI_mem {α : Type} {xs : List α} {i : Int} {x : α} (h : atI xs i = some x) : x ∈ xs := by
  unfold atI at h
  cases q : ixN xs.length i with
  | none => rw [q] at h; cases h
  | some j => rw [q] at h; exact List.mem_of_getElem? h
def IxD (X : Cx) (g : D → D → Option D) : Prop :=
  ∃ r : R2, IxR X r ∧ ∀ (T : Nat → Option Addr) (O : Addr → Prop) (H : Hp) v1 v2 d1 d2 d (Q : VK), OH O H → RT X.K T O H v1 d1 → RT X.K T O H v2 d2 → g d1 d2 = some d → (∀ v H', Ex H H' → Rep X.K T O H' v d → Q v H') → r v1 v2 H Q
theorem ix_all : IxD X dIx := by
  refine ⟨_, ix_seq, fun T O H v1 v2 d1 d2 d Q oh h1 h2 e w => ?_⟩
  unfold dIx at e
  split at e
  · obtain ⟨p, vs, rfl, s1, r1⟩ := h1.lst
    obtain ⟨v, hv, rp⟩ := r1.atI e
    exact .inl ⟨p, vs, _, v, rfl, h2.int, .inl s1, hv, w v H (Ex.refl H) rp⟩
  · obtain ⟨p, vs, rfl, s1, r1⟩ := h1.tup
    obtain ⟨v, hv, rp⟩ := r1.atI e
    exact .inr (.inl ⟨p, vs, _, v, rfl, h2.int, s1.sq, hv, w v H (Ex.refl H) rp⟩)
  · rename_i s i
    split at e
    · rename_i hl
      cases q : atI s i with
      | none => rw [q] at e; cases e
      | some c =>
        rw [q] at e
        cases e
        refine .inr (.inr ⟨_, _, c, h1.str, h2.int, by rw [S_len, lim_eq]; exact hl, by rw [S_toList]; exact q, w _ H (Ex.refl H) (.str [c] fun x hx => ?_)⟩)
        rw [List.mem_singleton] at hx
        rw [hx]
        exact h1.okS c (atI_mem q)
    · cases e
  · cases e
theorem ev_ix (hs : PlainIx b) (hi : IxD X g) (ha : EvE X S W a fa) (hb : EvE X S W b fb) : EvE X S W (.Subscript a b pos) (eBin g fa fb) := by
  obtain ⟨ta, pa, qa⟩ := ha
  obtain ⟨tb, pb, qb⟩ := hb
  obtain ⟨r, hr, qr⟩ := hi
  exact ⟨_, pe_ix hr pa pb hs, fun C σ H ρ Q E w => two qa qb qr E w⟩

/-! ### a[lo:hi] -/
def EvP (X : Cx) (S : ES) (W : WX) (e : Option Expr) (f : Env → Res (Option Int × Env)) : Prop :=
  ∃ t : TO, PO X e t ∧ ∀ (C : EC) (σ : St) (H : Hp) (ρ : Env) (Q : Option Int → Hp → Prop), ER X.K S C σ H ρ →
    Wp (f ρ) (XOk X.K S W C) (fun r => ∀ H', ER X.K S C σ H' r.2 → Adv (C.mo S σ ρ) H (C.mo S σ r.2) H' → Q r.1 H') → t σ H Q
def pNone : Env → Res (Option Int × Env) := fun ρ => .ok (none, ρ)
def asI : DV → Option Int
  | .val (.int i) => some i
  | _ => none
def pSome (f : SE) : Env → Res (Option Int × Env) := fun ρ => f ρ >>= fun r => ofOpt (asI r.1) >>= fun i => .ok (some i, r.2)
theorem ep_none : EvP X S W none pNone := ⟨_, po_none, fun C σ H ρ Q E w => w H E (.refl _ _)⟩
theorem RV.int {C : EC} {σ : St} {H : Hp} {ρ : Env} {v : V} {x : DV} {k : Int} (h : RV X.K S C σ H ρ v x) (e : asI x = some k) : v = .int k := by
  cases x with
  | val d =>
    cases d with
    | int k' =>
      have e' : some k' = some k := e
      cases e'
      have h' : Rep X.K S.T (C.O S σ ρ) H v (.int k) := h
      cases h'
      rfl
    | _ => cases e
  | plc i => cases e
theorem ep_some (h : EvE X S W a fa) : EvP X S W (some a) (pSome fa) := by
  obtain ⟨t, p, q⟩ := h
  refine ⟨_, po_some p, fun C σ H ρ Q E w => ?_⟩
  refine q C σ H ρ _ E ((Wp.bind w).mono (fun _ _ h => h) fun r1 _ w1 v1 H1 E1 A1 R1 => ?_)
  obtain ⟨i, ei, w2⟩ := opt_wp w1
  exact ⟨i, R1.int ei, w2 H1 E1 A1⟩
def cut {α : Type} (xs : List α) (lo hi : Option Int) : List α := (xs.drop (HT.sIx xs.length 0 lo)).take (HT.sIx xs.length xs.length hi - HT.sIx xs.length 0 lo)
def dSl : D → Option Int → Option Int → Option D
  | .lst xs, lo, hi => some (.lst (cut xs lo hi))
  | .tup xs, lo, hi => some (.tup (cut xs lo hi))
  | .str s, lo, hi => if s.length ≤ LIM then some (.str (cut s lo hi)) else none
  | _, _, _ => none
theorem Reps.drop {K : PySem.W.Frag} {T : Nat → Option Addr} {O : Addr → Prop} {H : Hp} : ∀ {vs : List V} {ds : List D} (n : Nat), Reps K T O H vs ds → Reps K T O H (vs.drop n) (ds.drop n)
  | _, _, 0, h => by rw [List.drop_zero, List.drop_zero]; exact h
  | _, _, n + 1, .nil => .nil
  | _, _, n + 1, .cons _ h => by rw [List.drop_succ_cons, List.drop_succ_cons]; exact h.drop n
theorem Reps.take {K : PySem.W.Frag} {T : Nat → Option Addr} {O : Addr → Prop} {H : Hp} : ∀ {vs : List V} {ds : List D} (n : Nat), Reps K T O H vs ds → Reps K T O H (vs.take n) (ds.take n)
  | _, _, 0, h => .nil
  | _, _, n + 1, .nil => .nil
  | _, _, n + 1, .cons h1 h => .cons h1 (h.take n)
theorem Reps.cut {K : PySem.W.Frag} {T : Nat → Option Addr} {O : Addr → Prop} {H : Hp} {vs : List V} {ds : List D} (h : Reps K T O H vs ds) (lo hi : Option Int) : Reps K T O H (cutV vs lo hi) (EV.cut ds lo hi) := by
  unfold cutV EV.cut
  rw [h.length]
  exact (h.drop _).take _
theorem cut_mem {α : Type} {xs : List α} {lo hi : Option Int} {c : α} (h : c ∈ cut xs lo hi) : c ∈ xs := List.mem_of_mem_drop (List.mem_of_mem_take h)
theorem cut_S (s : List Nat) (lo hi : Option Int) : cutS (SX.S s) lo hi = SX.S (cut s lo hi) := by
  unfold cutS cut
  rw [S_toList, S_len]
def eSl (f : SE) (fl fh : Env → Res (Option Int × Env)) : SE := fun ρ => f ρ >>= fun r => fl r.2 >>= fun l => fh l.2 >>= fun h => deref h.2 r.1 >>= fun d => ofOpt (dSl d l.1 h.1) >>= fun d' => .ok (.val d', h.2)
variable {lo hi : Option Expr} {fl fh : Env → Res (Option Int × Env)} {p2 : Pos}
theorem cut_all {α : Type} {xs : List α} {lo hi : Option Int} (h : HT.sIx xs.length 0 lo = 0 ∧ HT.sIx xs.length xs.length hi = xs.length) : cut xs lo hi = xs := by
  unfold cut
  rw [h.1, h.2]
  simp
theorem ev_slice (he : EvE X S W a fa) (hl : EvP X S W lo fl) (hh : EvP X S W hi fh) : EvE X S W (.Subscript a (.Slice lo hi none p2) pos) (eSl fa fl fh) := by
  obtain ⟨t, p, q⟩ := he
  obtain ⟨tl, pl, ql⟩ := hl
  obtain ⟨th, ph, qh⟩ := hh
  refine ⟨_, pe_slice (sl_list.or (sl_tupA.or sl_str)) p pl ph, fun C σ H ρ Q E w => ?_⟩
  refine q C σ H ρ _ E ((Wp.bind w).mono (fun _ _ h => h) fun r1 _ w1 v1 H1 E1 A1 R1 => ?_)
  refine ql C σ H1 r1.2 _ E1 ((Wp.bind w1).mono (fun _ _ h => h) fun r2 _ w2 H2 E2 A2 => ?_)
  refine qh C σ H2 r2.2 _ E2 ((Wp.bind w2).mono (fun _ _ h => h) fun r3 _ w3 H3 E3 A3 => ?_)
  obtain ⟨d, e1, w4⟩ := deref_wp w3
  obtain ⟨d', e2, w5⟩ := opt_wp w4
  have rt := (R1.adv (A2.trans A3)).rt E3 e1
  have A := (A1.trans A2).trans A3
  unfold dSl at e2
  split at e2
  · cases e2
    obtain ⟨p, vs, rfl, s1, rs⟩ := rt.lst
    refine .inl ⟨p, vs, rfl, .inl s1, fun p' hp => ?_⟩
    have x : Ex H3 (upd H3 p' (.lst (cutV vs r2.1 r3.1))) := Ex.new hp
    exact w5 _ _ (E3.ext x) (A.trans x.adv) (Rep.lst (OH.fresh E3.omut hp) (.inl upd_same) ((rs.cut _ _).adv x.ra))
  · cases e2
    obtain ⟨p, vs, rfl, s1, rs⟩ := rt.tup
    refine .inr (.inl ⟨p, vs, rfl, s1.sq, fun hw => ?_, fun hw p' hp => ?_⟩)
    · rw [rs.length] at hw
      rw [cut_all hw] at w5
      exact w5 _ _ E3 A (Rep.tup s1 rs)
    · have x : Ex H3 (upd H3 p' (.tup (cutV vs r2.1 r3.1))) := Ex.new hp
      exact w5 _ _ (E3.ext x) (A.trans x.adv) (Rep.tup (.inl ⟨OH.fresh E3.omut hp, .inl upd_same⟩) ((rs.cut _ _).adv x.ra))
  · split at e2
    · rename_i hl
      cases e2
      refine .inr (.inr ⟨_, rt.str, by rw [S_len, lim_eq]; exact hl, ?_⟩)
      rw [cut_S]
      exact w5 _ _ E3 A (Rep.str _ fun c hc => rt.okS c (cut_mem hc))
    · cases e2
  · cases e2
end
end EV

namespace EV
open PySem PySem.Spec L2 SX
open PyProof.Rows hiding St

/-! ### calls of what is built in -/
def RTs (K : PySem.W.Frag) (T : Nat → Option Addr) (O : Addr → Prop) (H : Hp) : List V → List D → Prop
  | [], [] => True
  | v :: vs, d :: ds => RT K T O H v d ∧ RTs K T O H vs ds
  | _, _ => False
/-- f does to data what g says -/
def CalD (X : Cx) (f : Value) (g : List D → Option D) : Prop :=
  ∃ r, CallR X f r ∧ ∀ (T : Nat → Option Addr) (O : Addr → Prop) (H : Hp) vs ds d (Q : VK), OH O H → RTs X.K T O H vs ds → g ds = some d → (∀ v H', Ex H H' → Rep X.K T O H' v d → Q v H') → r vs H Q
/-- what a new object holds -/
def NewAt (K : PySem.W.Frag) (T : Nat → Option Addr) (O : Addr → Prop) (H : Hp) (u : HO) : D → Prop
  | .lst ds => ∃ vs, u = .lst vs ∧ Reps K T O H vs ds
  | .dk ds => ∃ vs, u = .dK vs ∧ RepK K T O H vs ds
  | .dt ds => ∃ vs, u = .dT vs ∧ RepT K T O H vs ds
  | _ => False
theorem NewAt.mut {K : PySem.W.Frag} {T : Nat → Option Addr} {O : Addr → Prop} {H : Hp} {u : HO} {d : D} (h : NewAt K T O H u d) : Mut (some u) := by
  cases d with
  | lst ds => obtain ⟨vs, rfl, _⟩ := h; trivial
  | dk ds => obtain ⟨vs, rfl, _⟩ := h; trivial
  | dt ds => obtain ⟨vs, rfl, _⟩ := h; trivial
  | _ => exact h.elim
theorem NewAt.own {K : PySem.W.Frag} {T : Nat → Option Addr} {O O' : Addr → Prop} {H : Hp} {p : Addr} {u : HO} {d : D} (h : NewAt K T O H u d) (ra : RA O H O' (upd H p u)) : OwnAt K T O' (upd H p u) p d := by
  cases d with
  | lst ds => obtain ⟨vs, rfl, r⟩ := h; exact ⟨vs, upd_same, r.adv ra⟩
  | dk ds => obtain ⟨vs, rfl, r⟩ := h; exact ⟨vs, upd_same, r.adv ra⟩
  | dt ds => obtain ⟨vs, rfl, r⟩ := h; exact ⟨vs, upd_same, r.adv ra⟩
  | _ => exact h.elim
theorem NewAt.rep {K : PySem.W.Frag} {T : Nat → Option Addr} {O : Addr → Prop} {H : Hp} {p : Addr} {u : HO} {d : D} (h : NewAt K T O H u d) (oh : OH O H) (hp : H p = none) : Rep K T O (upd H p u) (.ref p) d :=
  (h.own (Ex.new hp).ra).rep (oh.fresh hp)
def CalF' (X : Cx) (f : Value) (g : List D → Option D) : Prop :=
  ∃ r, CallR X f r ∧ ∀ (T : Nat → Option Addr) (O : Addr → Prop) (H : Hp) vs ds d (Q : VK), OH O H → RTs X.K T O H vs ds → g ds = some d → (∀ p u, H p = none → NewAt X.K T O H u d → Q (.ref p) (upd H p u)) → r vs H Q
theorem CalF'.d {X : Cx} {f : Value} {g : List D → Option D} (h : CalF' X f g) : CalD X f g := by
  obtain ⟨r, c, q⟩ := h
  exact ⟨r, c, fun T O H vs ds d Q oh rt e w => q T O H vs ds d Q oh rt e fun p u hp na => w _ _ (Ex.new hp) (na.rep oh hp)⟩
theorem CallR.or {X : Cx} {f : Value} {r r' : List V → Hp → VK → Prop} (h : CallR X f r) (h' : CallR X f r') : CallR X f (fun xs H Q => r xs H Q ∨ r' xs H Q) := by
  intro pins s σ H xs us Q I rs q
  rcases q with q | q
  · exact h pins s σ H xs us Q I rs q
  · exact h' pins s σ H xs us Q I rs q
theorem CalD.or {X : Cx} {f : Value} {g g' : List D → Option D} (h : CalD X f g) (h' : CalD X f g') : CalD X f (fun ds => (g ds).or (g' ds)) := by
  obtain ⟨r, c, q⟩ := h
  obtain ⟨r', c', q'⟩ := h'
  refine ⟨_, CallR.or c c', fun T O H vs ds d Q oh rt e w => ?_⟩
  cases z : g ds with
  | some d' =>
    have e' : (g ds).or (g' ds) = some d := e
    rw [z] at e'
    cases e'
    exact .inl (q T O H vs ds d Q oh rt z w)
  | none =>
    have e' : (g ds).or (g' ds) = some d := e
    rw [z] at e'
    exact .inr (q' T O H vs ds d Q oh rt e' w)
theorem CalD.imp {X : Cx} {f : Value} {g g' : List D → Option D} (h : CalD X f g) (hg : ∀ ds d, g' ds = some d → g ds = some d) : CalD X f g' := by
  obtain ⟨r, c, q⟩ := h
  exact ⟨r, c, fun T O H vs ds d Q oh rt e w => q T O H vs ds d Q oh rt (hg _ _ e) w⟩
section
variable {X : Cx} {S : ES} {W : WX} {pos p : Pos} {x : Str} {e : Expr} {es : List Expr} {fs : Env → Res (List DV × Env)} {g : List D → Option D}
theorem rdA_rt {C : EC} {σ : St} {H : Hp} {ρ : Env} (E : ER X.K S C σ H ρ) : ∀ {vs : List V} {xs : List DV} {ds : List D}, RVs X.K S C σ H ρ vs xs → rdA ρ xs = some ds → RTs X.K S.T (C.O S σ ρ) H vs ds
  | [], [], ds, _, e => by cases e; exact trivial
  | v :: vs, .val d :: xs, ds, h, e => by
    have e' : (rdA ρ xs).map (d :: ·) = some ds := e
    cases q : rdA ρ xs with
    | none => rw [q] at e'; cases e'
    | some ds' =>
      rw [q] at e'
      obtain rfl : d :: ds' = ds := by simpa using e'
      exact ⟨.inl h.1, rdA_rt (xs := xs) E h.2 q⟩
  | v :: vs, .plc i :: xs, ds, h, e => by
    have e' : ((gt ρ i).bind fun d => (rdA ρ xs).map (d :: ·)) = some ds := e
    cases q0 : gt ρ i with
    | none => rw [q0] at e'; cases e'
    | some d =>
      rw [q0] at e'
      have e'' : (rdA ρ xs).map (d :: ·) = some ds := e'
      cases q : rdA ρ xs with
      | none => rw [q] at e''; cases e''
      | some ds' =>
        rw [q] at e''
        obtain rfl : d :: ds' = ds := by simpa using e''
        exact ⟨RV.rt (x := .plc i) E h.1 (by show ofOpt (gt ρ i) = .ok d; rw [q0]; rfl), rdA_rt (xs := xs) E h.2 q⟩
  | [], _ :: _, _, h, _ => h.elim
  | _ :: _, [], _, h, _ => h.elim
def eBlt (g : List D → Option D) (fs : Env → Res (List DV × Env)) : SE := fun ρ => fs ρ >>= fun r => ofOpt (rdA r.2 r.1) >>= fun ds => ofOpt (g ds) >>= fun d => .ok (.val d, r.2)
def fBlt (g : List D → Option D) (fs : Env → Res (List DV × Env)) : Env → Res (D × Env) := fun ρ => fs ρ >>= fun r => ofOpt (rdA r.2 r.1) >>= fun ds => ofOpt (g ds) >>= fun d => .ok (d, r.2)
theorem cb_ok {r : List V → Hp → VK → Prop} {t : TA} (qr : ∀ (T : Nat → Option Addr) (O : Addr → Prop) (H : Hp) vs ds d (Q : VK), OH O H → RTs X.K T O H vs ds → g ds = some d → (∀ v H', Ex H H' → Rep X.K T O H' v d → Q v H') → r vs H Q)
    (q : ∀ (C : EC) (σ : St) (H : Hp) (ρ : Env) (Q : List V → Hp → Prop), ER X.K S C σ H ρ → Wp (fs ρ) (XOk X.K S W C) (fun r => ∀ vs H', ER X.K S C σ H' r.2 → Adv (C.mo S σ ρ) H (C.mo S σ r.2) H' → RVs X.K S C σ H' r.2 vs r.1 → Q vs H') → t σ H Q)
    {C : EC} {σ : St} {H : Hp} {ρ : Env} {Q : VK} (E : ER X.K S C σ H ρ) (w : Wp (eBlt g fs ρ) (XOk X.K S W C) (fun r => ∀ v H', ER X.K S C σ H' r.2 → Adv (C.mo S σ ρ) H (C.mo S σ r.2) H' → RV X.K S C σ H' r.2 v r.1 → Q v H')) : tCB r t σ H Q := by
  refine q C σ H ρ _ E ((Wp.bind w).mono (fun _ _ h => h) fun r1 _ w1 vs H1 E1 A1 R1 => ?_)
  obtain ⟨ds, e1, w2⟩ := opt_wp w1
  obtain ⟨d, e2, w3⟩ := opt_wp w2
  exact qr S.T _ H1 vs ds d Q E1.omut (rdA_rt E1 R1 e1) e2 fun v H' x rp => w3 v H' (E1.ext x) (A1.trans x.adv) rp
theorem cf_ok {r : List V → Hp → VK → Prop} {t : TA} (qr : ∀ (T : Nat → Option Addr) (O : Addr → Prop) (H : Hp) vs ds d (Q : VK), OH O H → RTs X.K T O H vs ds → g ds = some d → (∀ p u, H p = none → NewAt X.K T O H u d → Q (.ref p) (upd H p u)) → r vs H Q)
    (q : ∀ (C : EC) (σ : St) (H : Hp) (ρ : Env) (Q : List V → Hp → Prop), ER X.K S C σ H ρ → Wp (fs ρ) (XOk X.K S W C) (fun r => ∀ vs H', ER X.K S C σ H' r.2 → Adv (C.mo S σ ρ) H (C.mo S σ r.2) H' → RVs X.K S C σ H' r.2 vs r.1 → Q vs H') → t σ H Q)
    {C : EC} {σ : St} {H : Hp} {ρ : Env} {Q : VK} (E : ER X.K S C σ H ρ) (w : Wp (fBlt g fs ρ) (XOk X.K S W C) (fun r => ∀ p H', H p = none → ¬ C.O S σ r.2 p → ER X.K S (C.pl [p]) σ H' r.2 → Adv (C.mo S σ ρ) H (C.mo S σ r.2) H' → OwnAt X.K S.T ((C.pl [p]).O S σ r.2) H' p r.1 → Q (.ref p) H')) : tCB r t σ H Q := by
  refine q C σ H ρ _ E ((Wp.bind w).mono (fun _ _ h => h) fun r1 _ w1 vs H1 E1 A1 R1 => ?_)
  obtain ⟨ds, e1, w2⟩ := opt_wp w1
  obtain ⟨d, e2, w3⟩ := opt_wp w2
  refine qr S.T _ H1 vs ds d Q E1.omut (rdA_rt E1 R1 e1) e2 fun p u hp na => ?_
  have x : Ex H1 (upd H1 p u) := Ex.new hp
  exact w3 p _ (A1.back hp) (OH.fresh E1.omut hp) (E1.alloc hp na.mut) (A1.trans x.adv) (na.own (ra_plus hp x))
theorem ev_blt {id : String} (c : CalD X (.builtin id) g) (hg : Gl X x) (hm : X.mg x = none) (hv : bootBuiltins x = some (.builtin id)) (ha : EvA X S W (e :: es) fs) (hn : x ≠ "__name__" := by decide) (hdb : (x == ("__debug__" : Str)) = false := by decide)
    (he : starEach (e :: es) X.env = (false, eval e X.env) :: starEach es X.env := by rfl) (hpl : (backTo pos (starEach es X.env)).any (·.1) = false := by rfl) : EvE X S W (.Call (.Name x p) (e :: es) [] pos) (eBlt g fs) := by
  obtain ⟨r, c, qr⟩ := c
  obtain ⟨t, pt, q⟩ := ha
  exact ⟨_, pe_callB c hg hm hv pt hn hdb he hpl, fun C σ H ρ Q E w => cb_ok qr q E w⟩
theorem ev_ty {T : String} (c : CalD X (.type T) g) (hg : Gl X x) (hm : X.mg x = none) (hv : bootBuiltins x = some (.type T)) (ha : EvA X S W (e :: es) fs) (hn : x ≠ "__name__" := by decide) (hdb : (x == ("__debug__" : Str)) = false := by decide)
    (he : starEach (e :: es) X.env = (false, eval e X.env) :: starEach es X.env := by rfl) (hpl : (backTo pos (starEach es X.env)).any (·.1) = false := by rfl) : EvE X S W (.Call (.Name x p) (e :: es) [] pos) (eBlt g fs) := by
  obtain ⟨r, c, qr⟩ := c
  obtain ⟨t, pt, q⟩ := ha
  exact ⟨_, pe_callTy c hg hm hv pt hn hdb he hpl, fun C σ H ρ Q E w => cb_ok qr q E w⟩
theorem ef_blt {id : String} (c : CalF' X (.builtin id) g) (hg : Gl X x) (hm : X.mg x = none) (hv : bootBuiltins x = some (.builtin id)) (ha : EvA X S W (e :: es) fs) (hn : x ≠ "__name__" := by decide) (hdb : (x == ("__debug__" : Str)) = false := by decide)
    (he : starEach (e :: es) X.env = (false, eval e X.env) :: starEach es X.env := by rfl) (hpl : (backTo pos (starEach es X.env)).any (·.1) = false := by rfl) : EvF X S W (.Call (.Name x p) (e :: es) [] pos) (fBlt g fs) := by
  obtain ⟨r, c, qr⟩ := c
  obtain ⟨t, pt, q⟩ := ha
  exact ⟨_, pe_callB c hg hm hv pt hn hdb he hpl, fun C σ H ρ Q E w => cf_ok qr q E w⟩
theorem ef_ty {T : String} (c : CalF' X (.type T) g) (hg : Gl X x) (hm : X.mg x = none) (hv : bootBuiltins x = some (.type T)) (ha : EvA X S W (e :: es) fs) (hn : x ≠ "__name__" := by decide) (hdb : (x == ("__debug__" : Str)) = false := by decide)
    (he : starEach (e :: es) X.env = (false, eval e X.env) :: starEach es X.env := by rfl) (hpl : (backTo pos (starEach es X.env)).any (·.1) = false := by rfl) : EvF X S W (.Call (.Name x p) (e :: es) [] pos) (fBlt g fs) := by
  obtain ⟨r, c, qr⟩ := c
  obtain ⟨t, pt, q⟩ := ha
  exact ⟨_, pe_callTy c hg hm hv pt hn hdb he hpl, fun C σ H ρ Q E w => cf_ok qr q E w⟩
theorem RTs.one {K : PySem.W.Frag} {T : Nat → Option Addr} {O : Addr → Prop} {H : Hp} {vs : List V} {d : D} (h : RTs K T O H vs [d]) : ∃ v, vs = [v] ∧ RT K T O H v d := by
  match vs, h with
  | [v], h => exact ⟨v, rfl, h.1⟩
  | [], h => exact h.elim
  | _ :: _ :: _, h => exact h.2.elim
theorem RTs.two {K : PySem.W.Frag} {T : Nat → Option Addr} {O : Addr → Prop} {H : Hp} {vs : List V} {d d' : D} (h : RTs K T O H vs [d, d']) : ∃ v v', vs = [v, v'] ∧ RT K T O H v d ∧ RT K T O H v' d' := by
  match vs, h with
  | [v, v'], h => exact ⟨v, v', rfl, h.1, h.2.1⟩
  | [], h => exact h.elim
  | [_], h => exact h.2.elim
  | _ :: _ :: _ :: _, h => exact h.2.2.elim

/-! ### len -/
def bLen : List D → Option D
  | [.str s] => if s.length ≤ LIM then some (.int s.length) else none
  | [.lst xs] => some (.int xs.length)
  | [.tup xs] => some (.int xs.length)
  | _ => none
theorem cd_len : CalD X (.builtin "len") bLen := by
  refine ⟨_, call_len, fun T O H vs ds d Q oh rt e w => ?_⟩
  unfold bLen at e
  split at e
  · split at e
    · rename_i hl
      cases e
      obtain ⟨v, rfl, h⟩ := rt.one
      refine ⟨v, _, rfl, ?_, w _ H (Ex.refl H) (.int _)⟩
      rw [h.str]
      exact ⟨by rw [S_len, lim_eq]; exact hl, (S_len _).symm⟩
    · cases e
  · cases e
    obtain ⟨v, rfl, h⟩ := rt.one
    obtain ⟨a, vs, rfl, h1, h2⟩ := h.lst
    exact ⟨_, _, rfl, .inl ⟨vs, .inl h1, h2.length.symm⟩, w _ H (Ex.refl H) (.int _)⟩
  · cases e
    obtain ⟨v, rfl, h⟩ := rt.one
    obtain ⟨a, vs, rfl, h1, h2⟩ := h.tup
    exact ⟨_, _, rfl, .inr ⟨vs, h1.sq, h2.length.symm⟩, w _ H (Ex.refl H) (.int _)⟩
  · cases e

/-! ### numbers -/
def bAbs : List D → Option D
  | [.int i] => some (.int (if i < 0 then -i else i))
  | _ => none
theorem cd_abs : CalD X (.builtin "abs") bAbs := by
  refine ⟨_, call_abs, fun T O H vs ds d Q oh rt e w => ?_⟩
  unfold bAbs at e
  split at e
  · cases e
    obtain ⟨v, rfl, h⟩ := rt.one
    exact ⟨_, by rw [h.int], w _ H (Ex.refl H) (.int _)⟩
  · cases e
def bMax2 : List D → Option D
  | [.int i, .int j] => some (.int (if j > i then j else i))
  | _ => none
def bMin2 : List D → Option D
  | [.int i, .int j] => some (.int (if j < i then j else i))
  | _ => none
theorem cd_max2 (hc : X.calm = true) : CalD X (.builtin "max") bMax2 := by
  refine ⟨_, call_max2 hc, fun T O H vs ds d Q oh rt e w => ?_⟩
  unfold bMax2 at e
  split at e
  · cases e
    obtain ⟨v, v', rfl, h, h'⟩ := rt.two
    exact ⟨_, _, by rw [h.int, h'.int], w _ H (Ex.refl H) (.int _)⟩
  · cases e
theorem cd_min2 (hc : X.calm = true) : CalD X (.builtin "min") bMin2 := by
  refine ⟨_, call_min2 hc, fun T O H vs ds d Q oh rt e w => ?_⟩
  unfold bMin2 at e
  split at e
  · cases e
    obtain ⟨v, v', rfl, h, h'⟩ := rt.two
    exact ⟨_, _, by rw [h.int, h'.int], w _ H (Ex.refl H) (.int _)⟩
  · cases e
def bInt : List D → Option D
  | [.int i] => some (.int i)
  | [.bl k] => some (.int (if k then 1 else 0))
  | _ => none
theorem cd_int : CalD X (.type "int") bInt := by
  refine ⟨_, call_int1, fun T O H vs ds d Q oh rt e w => ?_⟩
  unfold bInt at e
  split at e
  · cases e
    obtain ⟨v, rfl, h⟩ := rt.one
    exact .inl ⟨_, by rw [h.int], w _ H (Ex.refl H) (.int _)⟩
  · cases e
    obtain ⟨v, rfl, h⟩ := rt.one
    exact .inr ⟨_, by rw [h.bl], w _ H (Ex.refl H) (.int _)⟩
  · cases e
/-- lists of ints, of bools -/
def dInts : List D → Option (List Int)
  | [] => some []
  | .int i :: r => (dInts r).map (i :: ·)
  | _ => none
def dBls : List D → Option (List Bool)
  | [] => some []
  | .bl i :: r => (dBls r).map (i :: ·)
  | _ => none
def dStrs : List D → Option (List (List Nat))
  | [] => some []
  | .str i :: r => (dStrs r).map (i :: ·)
  | _ => none
theorem ints_eq : ∀ {ds : List D} {ns : List Int}, dInts ds = some ns → ds = ns.map D.int
  | [], ns, e => by cases e; rfl
  | .int i :: r, ns, e => by
    have e' : (dInts r).map (i :: ·) = some ns := e
    cases q : dInts r with
    | none => rw [q] at e'; cases e'
    | some ms =>
      rw [q] at e'
      obtain rfl : i :: ms = ns := by simpa using e'
      rw [ints_eq q]
      rfl
  | .non :: _, _, e => nomatch e
  | .bl _ :: _, _, e => nomatch e
  | .str _ :: _, _, e => nomatch e
  | .tup _ :: _, _, e => nomatch e
  | .lst _ :: _, _, e => nomatch e
  | .dk _ :: _, _, e => nomatch e
  | .dt _ :: _, _, e => nomatch e
  | .fn _ :: _, _, e => nomatch e
  | .scr _ :: _, _, e => nomatch e
theorem bls_eq : ∀ {ds : List D} {ns : List Bool}, dBls ds = some ns → ds = ns.map D.bl
  | [], ns, e => by cases e; rfl
  | .bl i :: r, ns, e => by
    have e' : (dBls r).map (i :: ·) = some ns := e
    cases q : dBls r with
    | none => rw [q] at e'; cases e'
    | some ms =>
      rw [q] at e'
      obtain rfl : i :: ms = ns := by simpa using e'
      rw [bls_eq q]
      rfl
  | .non :: _, _, e => nomatch e
  | .int _ :: _, _, e => nomatch e
  | .str _ :: _, _, e => nomatch e
  | .tup _ :: _, _, e => nomatch e
  | .lst _ :: _, _, e => nomatch e
  | .dk _ :: _, _, e => nomatch e
  | .dt _ :: _, _, e => nomatch e
  | .fn _ :: _, _, e => nomatch e
  | .scr _ :: _, _, e => nomatch e
theorem strs_eq : ∀ {ds : List D} {ns : List (List Nat)}, dStrs ds = some ns → ds = ns.map D.str
  | [], ns, e => by cases e; rfl
  | .str i :: r, ns, e => by
    have e' : (dStrs r).map (i :: ·) = some ns := e
    cases q : dStrs r with
    | none => rw [q] at e'; cases e'
    | some ms =>
      rw [q] at e'
      obtain rfl : i :: ms = ns := by simpa using e'
      rw [strs_eq q]
      rfl
  | .non :: _, _, e => nomatch e
  | .int _ :: _, _, e => nomatch e
  | .bl _ :: _, _, e => nomatch e
  | .tup _ :: _, _, e => nomatch e
  | .lst _ :: _, _, e => nomatch e
  | .dk _ :: _, _, e => nomatch e
  | .dt _ :: _, _, e => nomatch e
  | .fn _ :: _, _, e => nomatch e
  | .scr _ :: _, _, e => nomatch e
theorem Reps.ints {K : PySem.W.Frag} {T : Nat → Option Addr} {O : Addr → Prop} {H : Hp} : ∀ {ns : List Int} {vs : List V}, Reps K T O H vs (ns.map D.int) → vs = ns.map V.int
  | [], vs, h => by cases h; rfl
  | n :: ns, vs, h => by
    cases h with
    | cons h1 h2 => cases h1; rw [Reps.ints h2]; rfl
theorem Reps.bls {K : PySem.W.Frag} {T : Nat → Option Addr} {O : Addr → Prop} {H : Hp} : ∀ {ns : List Bool} {vs : List V}, Reps K T O H vs (ns.map D.bl) → vs = ns.map V.bl
  | [], vs, h => by cases h; rfl
  | n :: ns, vs, h => by
    cases h with
    | cons h1 h2 => cases h1; rw [Reps.bls h2]; rfl
theorem Reps.strs {K : PySem.W.Frag} {T : Nat → Option Addr} {O : Addr → Prop} {H : Hp} : ∀ {ns : List (List Nat)} {vs : List V}, Reps K T O H vs (ns.map D.str) → vs = (ns.map SX.S).map V.str ∧ ∀ s, s ∈ ns → okS s
  | [], vs, h => by cases h; exact ⟨rfl, fun s hs => nomatch hs⟩
  | n :: ns, vs, h => by
    cases h with
    | cons h1 h2 =>
      cases h1 with
      | str _ hs =>
        obtain ⟨e, o⟩ := Reps.strs h2
        refine ⟨by rw [e]; rfl, fun s hm => ?_⟩
        rcases List.mem_cons.mp hm with rfl | hm
        · exact hs
        · exact o s hm
theorem Reps.ofInts {K : PySem.W.Frag} {T : Nat → Option Addr} {O : Addr → Prop} {H : Hp} : ∀ (ns : List Int), Reps K T O H (ns.map V.int) (ns.map D.int)
  | [] => .nil
  | n :: ns => .cons (.int n) (Reps.ofInts ns)
theorem Reps.ofStrs {K : PySem.W.Frag} {T : Nat → Option Addr} {O : Addr → Prop} {H : Hp} : ∀ (ns : List (List Nat)), (∀ s, s ∈ ns → okS s) → Reps K T O H ((ns.map SX.S).map V.str) (ns.map D.str)
  | [], _ => .nil
  | n :: ns, h => .cons (.str n (h n (List.mem_cons_self ..))) (Reps.ofStrs ns fun s hs => h s (List.mem_cons_of_mem _ hs))
def bAll : List D → Option D
  | [.lst xs] => (dBls xs).map fun bs => .bl (bs.all id)
  | _ => none
def bAny : List D → Option D
  | [.lst xs] => (dBls xs).map fun bs => .bl (bs.any id)
  | _ => none
theorem map_some' {α β : Type} {o : Option α} {f : α → β} {b : β} (h : o.map f = some b) : ∃ a, o = some a ∧ f a = b := by
  cases o with
  | none => cases h
  | some a => exact ⟨a, rfl, Option.some.inj h⟩
theorem cd_all (hc : X.calm = true) : CalD X (.builtin "all") bAll := by
  refine ⟨_, cr_all hc, fun T O H vs ds d Q oh rt e w => ?_⟩
  unfold bAll at e
  split at e
  · obtain ⟨bs, e1, rfl⟩ := map_some' e
    obtain rfl := bls_eq e1
    obtain ⟨v, rfl, h⟩ := rt.one
    obtain ⟨a, vs, rfl, h1, h2⟩ := h.lst
    obtain rfl := h2.bls
    exact ⟨a, bs, rfl, .inl h1, w _ H (Ex.refl H) (.bl _)⟩
  · cases e
theorem cd_any (hc : X.calm = true) : CalD X (.builtin "any") bAny := by
  refine ⟨_, cr_any hc, fun T O H vs ds d Q oh rt e w => ?_⟩
  unfold bAny at e
  split at e
  · obtain ⟨bs, e1, rfl⟩ := map_some' e
    obtain rfl := bls_eq e1
    obtain ⟨v, rfl, h⟩ := rt.one
    obtain ⟨a, vs, rfl, h1, h2⟩ := h.lst
    obtain rfl := h2.bls
    exact ⟨a, bs, rfl, .inl h1, w _ H (Ex.refl H) (.bl _)⟩
  · cases e
/-! ### tuple, list -/
def bTup : List D → Option D
  | [.lst xs] => some (.tup xs)
  | [.tup xs] => some (.tup xs)
  | _ => none
theorem cd_tup : CalD X (.type "tuple") bTup := by
  refine ⟨_, call_tuple_of, fun T O H vs ds d Q oh rt e w => ?_⟩
  unfold bTup at e
  split at e
  · cases e
    obtain ⟨v, rfl, h⟩ := rt.one
    obtain ⟨a, vs, rfl, h1, h2⟩ := h.lst
    exact ⟨a, vs, rfl, .inl ⟨.inl h1, fun l hl => w _ _ (Ex.new hl) (.tup (.inl ⟨oh.fresh hl, .inl upd_same⟩) (h2.adv (Ex.new hl).ra))⟩⟩
  · cases e
    obtain ⟨v, rfl, h⟩ := rt.one
    obtain ⟨a, vs, rfl, h1, h2⟩ := h.tup
    exact ⟨a, vs, rfl, .inr ⟨h1.sq, w _ H (Ex.refl H) (.tup h1 h2)⟩⟩
  · cases e
def bLst : List D → Option D
  | [.lst xs] => some (.lst xs)
  | [.tup xs] => some (.lst xs)
  | [.scr ns] => some (.lst (ns.map D.int))
  | _ => none
theorem cf_lst : CalF' X (.type "list") bLst := by
  refine ⟨_, call_list_of, fun T O H vs ds d Q oh rt e w => ?_⟩
  unfold bLst at e
  split at e
  · cases e
    obtain ⟨v, rfl, h⟩ := rt.one
    obtain ⟨a, vs, rfl, h1, h2⟩ := h.lst
    exact ⟨a, vs, rfl, .inl (.inl h1), fun l hl => w l _ hl ⟨vs, rfl, h2⟩⟩
  · cases e
    obtain ⟨v, rfl, h⟩ := rt.one
    obtain ⟨a, vs, rfl, h1, h2⟩ := h.tup
    exact ⟨a, vs, rfl, .inr h1.sq, fun l hl => w l _ hl ⟨vs, rfl, h2⟩⟩
  · cases e
    rename_i ns
    obtain ⟨v, rfl, h⟩ := rt.one
    rcases h with h | ⟨a, rfl, h⟩
    · cases h with
      | scr h1 => exact ⟨_, _, rfl, .inl h1.sq, fun l hl => w l _ hl ⟨_, rfl, Reps.ofInts ns⟩⟩
    · exact h.elim
  · cases e
def bSum : List D → Option D
  | [.lst xs] => (dInts xs).map fun ns => .int ns.sum
  | _ => none
theorem cd_sum (hc : X.calm = true) : CalD X (.builtin "sum") bSum := by
  refine ⟨_, cr_sum hc, fun T O H vs ds d Q oh rt e w => ?_⟩
  unfold bSum at e
  split at e
  · obtain ⟨bs, e1, rfl⟩ := map_some' e
    obtain rfl := ints_eq e1
    obtain ⟨v, rfl, h⟩ := rt.one
    obtain ⟨a, vs, rfl, h1, h2⟩ := h.lst
    obtain rfl := h2.ints
    exact ⟨a, bs, rfl, .inl h1, w _ H (Ex.refl H) (.int _)⟩
  · cases e
end
end EV

namespace EV
open PySem PySem.Spec L2 SX
open PyProof.Rows hiding St

/-! ### order of data -/
mutual
def D.toks : D → List (Int ⊕ List Nat)
  | .bl b => [.inl (if b = true then 1 else 0)]
  | .int n => [.inl n]
  | .str x => [.inr x]
  | .lst xs => toksL xs
  | .tup xs => toksL xs
  | _ => []
def toksL : List D → List (Int ⊕ List Nat)
  | [] => [.inl 0]
  | x :: xs => .inl 1 :: (x.toks ++ toksL xs)
end
mutual
def D.alk : D → D → Bool
  | .bl _, .bl _ => true
  | .int _, .int _ => true
  | .str _, .str _ => true
  | .lst xs, .lst ys => alkL xs ys
  | .tup xs, .tup ys => alkL xs ys
  | _, _ => false
def alkL : List D → List D → Bool
  | [], _ => true
  | x :: xs, y :: ys => x.alk y && alkL xs ys
  | _ :: _, [] => false
end
def D.ltb (a b : D) : Bool := PyProof.Rows.lexLt itemOrd a.toks b.toks
mutual
theorem py_toks : ∀ d : D, d.lay = true → PySem.W.keyToks d.py = d.toks
  | .non, _ => rfl
  | .bl b, _ => rfl
  | .int n, _ => rfl
  | .str x, _ => by
    show [Sum.inr (SX.S x).cps.toList] = [Sum.inr x]
    rw [S_toList]
  | .lst xs, h => pyL_toks xs h
  | .tup xs, h => pyL_toks xs h
  | .dk _, h => nomatch h
  | .dt _, h => nomatch h
  | .fn _, h => nomatch h
  | .scr _, h => nomatch h
theorem pyL_toks : ∀ ds : List D, layL ds = true → PySem.W.keyToksAll (pyL ds) = toksL ds
  | [], _ => rfl
  | d :: ds, h => by
    have h' : (d.lay && layL ds) = true := h
    rw [Bool.and_eq_true] at h'
    show Sum.inl 1 :: (PySem.W.keyToks d.py ++ PySem.W.keyToksAll (pyL ds)) = Sum.inl 1 :: (d.toks ++ toksL ds)
    rw [py_toks d h'.1, pyL_toks ds h'.2]
end
mutual
theorem py_alk : ∀ a b : D, a.lay = true → b.lay = true → a.alk b = true → PySem.W.alike a.py b.py = true
  | .bl _, b, _, _, h => by cases b <;> first | rfl | cases h
  | .int _, b, _, _, h => by cases b <;> first | rfl | cases h
  | .str _, b, _, _, h => by cases b <;> first | rfl | cases h
  | .lst xs, b, la, lb, h => by cases b <;> first | exact pyL_alk xs _ la lb h | cases h
  | .tup xs, b, la, lb, h => by cases b <;> first | exact pyL_alk xs _ la lb h | cases h
  | .non, b, _, _, h => by cases b <;> cases h
  | .dk _, _, h, _, _ => nomatch h
  | .dt _, _, h, _, _ => nomatch h
  | .fn _, _, h, _, _ => nomatch h
  | .scr _, _, h, _, _ => nomatch h
theorem pyL_alk : ∀ xs ys : List D, layL xs = true → layL ys = true → alkL xs ys = true → PySem.W.alikeAll (pyL xs) (pyL ys) = true
  | [], ys, _, _, _ => by cases ys <;> rfl
  | x :: xs, [], _, _, h => nomatch h
  | x :: xs, y :: ys, la, lb, h => by
    have la' : (x.lay && layL xs) = true := la
    have lb' : (y.lay && layL ys) = true := lb
    have h' : (x.alk y && alkL xs ys) = true := h
    rw [Bool.and_eq_true] at la' lb' h'
    show (PySem.W.alike x.py y.py && PySem.W.alikeAll (pyL xs) (pyL ys)) = true
    rw [py_alk x y la'.1 lb'.1 h'.1, pyL_alk xs ys la'.2 lb'.2 h'.2]
    rfl
end
theorem py_none {a b : D} (h : a.alk b = true) : a.py ≠ .none := by
  cases a <;> first | (cases b <;> cases h; done) | (intro e; unfold D.py at e; cases e)
theorem py_lt {a b : D} (ha : a.lay = true) (hb : b.lay = true) : PySem.W.dataLt a.py b.py = a.ltb b := by
  unfold PySem.W.dataLt D.ltb
  rw [py_toks a ha, py_toks b hb]
section
variable {X : Cx} {S : ES} {W : WX} {pos : Pos}
def cmpOk (a b : D) : Bool := a.lay && b.lay && decide (min a.dep b.dep ≤ 64) && a.alk b
theorem cmpOk_of {a b : D} (h : cmpOk a b = true) : a.lay = true ∧ b.lay = true ∧ min a.dep b.dep ≤ 64 ∧ a.alk b = true := by
  unfold cmpOk at h
  rw [Bool.and_eq_true, Bool.and_eq_true, Bool.and_eq_true, decide_eq_true_eq] at h
  exact ⟨h.1.1.1, h.1.1.2, h.1.2, h.2⟩
def rCmpP (K : PySem.W.Frag) (k : PyData → PyData → Bool) : R2 := fun x y H Q => ∃ d e : PyData, Dp K H x d ∧ Dp K H y e ∧ PySem.W.alike d e = true ∧ d ≠ .none ∧ min d.depth e.depth ≤ 64 ∧ Q (.bl (k d e)) H
theorem op_ltP (hu : X.A.units + 64 < cLine) : OpR X (compareOp .Lt) (rCmpP X.K fun d e => PySem.W.dataLt d e) := by
  intro pins s σ H x y v u Q I rx ry h
  obtain ⟨d, e, h1, h2, h3, h4, h5, q⟩ := h
  obtain ⟨as, r1⟩ := Dp.reads I d x v h1 rx
  obtain ⟨bs, r2⟩ := Dp.reads I e y u h2 ry
  exact PySem.W.lt_data r1 r2 h3 h4 (by omega) ⟨.bl _, H, I, rfl, q⟩
theorem op_gtP (hu : X.A.units + 64 < cLine) : OpR X (compareOp .Gt) (rCmpP X.K fun d e => PySem.W.dataLt e d) := by
  intro pins s σ H x y v u Q I rx ry h
  obtain ⟨d, e, h1, h2, h3, h4, h5, q⟩ := h
  obtain ⟨as, r1⟩ := Dp.reads I d x v h1 rx
  obtain ⟨bs, r2⟩ := Dp.reads I e y u h2 ry
  exact PySem.W.gt_data r1 r2 h3 h4 (by omega) ⟨.bl _, H, I, rfl, q⟩
theorem op_leP (hu : X.A.units + 64 < cLine) : OpR X (compareOp .LtE) (rCmpP X.K fun d e => !PySem.W.dataLt e d) := by
  intro pins s σ H x y v u Q I rx ry h
  obtain ⟨d, e, h1, h2, h3, h4, h5, q⟩ := h
  obtain ⟨as, r1⟩ := Dp.reads I d x v h1 rx
  obtain ⟨bs, r2⟩ := Dp.reads I e y u h2 ry
  exact PySem.W.le_data r1 r2 h3 h4 (by omega) ⟨.bl _, H, I, rfl, q⟩
theorem op_geP (hu : X.A.units + 64 < cLine) : OpR X (compareOp .GtE) (rCmpP X.K fun d e => !PySem.W.dataLt d e) := by
  intro pins s σ H x y v u Q I rx ry h
  obtain ⟨d, e, h1, h2, h3, h4, h5, q⟩ := h
  obtain ⟨as, r1⟩ := Dp.reads I d x v h1 rx
  obtain ⟨bs, r2⟩ := Dp.reads I e y u h2 ry
  exact PySem.W.ge_data r1 r2 h3 h4 (by omega) ⟨.bl _, H, I, rfl, q⟩
theorem od_cmpk {f : Value → Value → Sem Value} {k : PyData → PyData → Bool} {k' : D → D → Bool} (h : OpR X f (rCmpP X.K k)) (hk : ∀ a b : D, a.lay = true → b.lay = true → k a.py b.py = k' a b) : OpD X f (fun a b => if cmpOk a b = true then some (.bl (k' a b)) else none) := by
  refine ⟨_, h, fun T O H v1 v2 d1 d2 d Q oh r1 r2 e w => ?_⟩
  have e' : (if cmpOk d1 d2 = true then some (D.bl (k' d1 d2)) else none) = some d := e
  split at e'
  · rename_i c
    cases e'
    obtain ⟨l1, l2, dp, al⟩ := cmpOk_of c
    refine ⟨d1.py, d2.py, (r1.dp l1).1, (r2.dp l2).1, py_alk _ _ l1 l2 al, py_none al, by rw [py_dep _ l1, py_dep _ l2]; exact dp, ?_⟩
    rw [hk _ _ l1 l2]
    exact w _ H (Ex.refl H) (.bl _)
  · cases e'
/-- <, >, <=, >= of ints, texts, tuples, lists -/
def dCmp (k : D → D → Bool) (kI : Int → Int → Bool) : D → D → Option D
  | .int i, .int j => some (.bl (kI i j))
  | a, b => if cmpOk a b = true then some (.bl (k a b)) else none
theorem cmp_merge {f : Value → Value → Sem Value} {k : D → D → Bool} {kI : Int → Int → Bool} (h1 : OpD X f (onII fun i j => some (.bl (kI i j)))) (h2 : OpD X f (fun a b => if cmpOk a b = true then some (.bl (k a b)) else none)) : OpD X f (dCmp k kI) := by
  refine (h1.or h2).imp fun a b d e => ?_
  unfold dCmp at e
  split at e
  · cases e; rfl
  · show Option.or (onII _ a b) _ = _
    cases a <;> cases b <;> first | (rename_i hx; exact absurd rfl (hx _ _ rfl)) | exact e
def dLT := dCmp D.ltb (fun i j => decide (i < j))
def dGT := dCmp (fun a b => b.ltb a) (fun i j => decide (j < i))
def dLE := dCmp (fun a b => !b.ltb a) (fun i j => decide (i ≤ j))
def dGE := dCmp (fun a b => !a.ltb b) (fun i j => decide (j ≤ i))
theorem od_LT (hu : X.A.units + 64 < cLine) : OpD X (compareOp .Lt) dLT := cmp_merge od_lt (od_cmpk (op_ltP hu) fun a b ha hb => py_lt ha hb)
theorem od_GT (hu : X.A.units + 64 < cLine) : OpD X (compareOp .Gt) dGT := cmp_merge od_gt (od_cmpk (op_gtP hu) fun a b ha hb => py_lt hb ha)
theorem od_LE (hu : X.A.units + 64 < cLine) : OpD X (compareOp .LtE) dLE := cmp_merge od_le (od_cmpk (op_leP hu) fun a b ha hb => by rw [py_lt hb ha])
theorem od_GE (hu : X.A.units + 64 < cLine) : OpD X (compareOp .GtE) dGE := cmp_merge od_ge (od_cmpk (op_geP hu) fun a b ha hb => by rw [py_lt ha hb])

/-! ### sum of a tuple -/
def rSumT (K : PySem.W.Frag) : List V → Hp → VK → Prop := fun vs H Q => ∃ (a : Addr) (ns : List Int), vs = [V.ref a] ∧ SqT K H a (ns.map V.int) ∧ Q (.int ns.sum) H
theorem preSum_list {f : Nat → Int} : ∀ (ns : List Int) , (∀ i, i < ns.length → f i = ns.getD i 0) → preSum f ns.length = ns.sum := by
  have go : ∀ (ns : List Int) (k : Nat), k ≤ ns.length → (∀ i, i < ns.length → f i = ns.getD i 0) → preSum f k = (ns.take k).sum := by
    intro ns k
    induction k with
    | zero => intro _ _; simp [preSum]
    | succ k ih =>
      intro hk hf
      have e : preSum f (k + 1) = preSum f k + f k := rfl
      rw [e, ih (by omega) hf, hf k (by omega), List.take_add_one, List.sum_append]
      rw [List.getD_eq_getElem?_getD, List.getElem?_eq_getElem (by omega)]
      simp
  intro ns hf
  rw [go ns _ (Nat.le_refl _) hf, List.take_length]
theorem cr_sumT (hc : X.calm = true) : CallR X (.builtin "sum") (rSumT X.K) := by
  intro pins s σ H vs us Q I r h
  obtain ⟨a, ns, rfl, hs, q⟩ := h
  obtain ⟨its, rv, hl, _⟩ := I.tuple hs
  rw [Vals.ref1 r]
  have hi := rv.ints
  have hlen : its.toArray.size = ns.length := by rw [List.size_toArray]; exact hi.length
  have hl' : s.heap.IsTuple a its.toArray := by
    obtain ⟨o, ho, hcls, n, hd⟩ := hl
    exact ⟨o, ho, hcls, n, hd⟩
  refine call_sum_walkAnyS (PySem.W.iter_tupleW (A := X.A.in1) (I.ok.hd hc) hl' fun s₂ e W st hfp hw hk => ?_)
  refine ⟨_, _, _, _, _, _, _, fun i => ns.getD i 0, rfl, W, st, hfp, fun i v hv => ?_, fun s' t' m => ?_⟩
  · have hv' : its[i]? = some v := by simpa using hv
    exact hi.int_at i v hv'
  · obtain ⟨h', tk, rfl, hk'⟩ := PySem.W.moved_old e rfl m
    rw [hlen, preSum_list ns fun i _ => rfl]
    exact ⟨.int _, H, I.kept hk', ⟨_, rfl⟩, q⟩
end
end EV

namespace PySem
open Sem (wp)
open PySem.W PySem.SeqAt PyProof.Rows
section
variable {prog : Program} {w : World} {A : Around} {E : Value → Shared → Prop} {s : Shared}
/-- min(a, b) over what is walked -/
theorem ev_call_min_twoH {a b : Value} {Q : Value → Shared → Prop}
    (h : wpAny (model prog w) A.in1 (pyIter (.ref s.heap.objs.size)) (fun it s₂ => ∃ I fp wr G n P St H bt, it = .ref I ∧ WalksS prog w A.in1 I fp wr G n P St ∧ St 0 s₂ ∧ (∀ b ∈ fp, b < s₂.heap.objs.size) ∧ 0 < n ∧
      (∀ b o, H.get? b = some o → b ∉ wr) ∧ (∀ b o, H.get? b = some o → s₂.heap.get? b = some o) ∧ CmpIn prog w A.in1 .Lt H P bt ∧ ∀ v s', P (argBest bt (n - 1)) v → Moved wr G s₂ s' → Q v s') E
      { s with heap := s.heap.push { cls := .type "tuple", data := .seq #[a, b] } }) :
    wpAny (model prog w) A (call (.builtin "min") [a, b]) Q E s := by
  have hname : (toString "min" ++ toString ".loop" : String) = "min.loop" := by decide
  refine call_function_tree F.kind_min F.plain_min F.entry_min (F.args_min2 _ _) ?_
  show wpAny _ A.in1 (Builtin.Builtins.bindParams "min" ["key", "default"] 0 ⟨[], []⟩ >>= _) _ _ s
  refine wpAny_bind (wpAny_of_eq (show Builtin.Builtins.bindParams "min" ["key", "default"] 0 ⟨[], []⟩ = pure [none, none] from rfl) ?_)
  show wpAny _ A.in1 (newTuple [a, b] >>= _) _ _ s
  refine wpAny_bind (wpAny_newObj_type ?_)
  refine wpAny_bind (wpAny_mono h (fun it s₂ h₂ => ?_) fun _ _ e => e)
  obtain ⟨I, fp, wr, G, n, P, St, H, bt, rfl, W, hst, hfp, hn, hw, hkeep, hcmp, hQ⟩ := h₂
  refine wpAny_bind (wpAny_newObj_type ?_)
  have hSf : s₂.heap.objs.size ∉ fp := fun hm => Nat.lt_irrefl _ (hfp _ hm)
  rw [hname]
  refine wpAny_pure ⟨plainId_quiet F.plain_min_loop _, codeAny_min_loop_firstH W H hw bt hcmp s₂.heap.objs.size hSf (fresh_in hkeep) _ hn (fun b o e => Heap.get?_push_of_some _ (hkeep b o e)) (W.frame 0 s₂ _ s₂.toks hst (Nat.le_refl _) fun b _ o e => Heap.get?_push_of_some _ e) (Heap.get?_push_size _ rfl) fun v s' hP hm => ?_⟩
  exact hQ v s' hP (Moved.drop_new (tk := s₂.toks) hm (Nat.le_refl _))
end
end PySem
namespace EV
open PySem PySem.Spec L2 SX
open PyProof.Rows hiding St
section
variable {X : Cx} {S : ES} {W : WX} {pos : Pos}
abbrev btP (ps : List PyData) : Nat → Nat → Bool := fun i j => PySem.W.dataLt (ps.getD i .none) (ps.getD j .none)
abbrev btPm (ps : List PyData) : Nat → Nat → Bool := fun i j => PySem.W.dataLt (ps.getD j .none) (ps.getD i .none)
def rBestP (K : PySem.W.Frag) (bt : List PyData → Nat → Nat → Bool) : List V → Hp → VK → Prop := fun vs H Q => ∃ (a : Addr) (ys : List V) (ps : List PyData), vs = [V.ref a] ∧ (SqL K H a ys ∨ SqT K H a ys) ∧ DpAll K H ys ps ∧ PySem.W.AlikeAll ps ∧ PyData.depthAll ps ≤ 64 ∧ 0 < ys.length ∧
  ∀ v, ys[argBest (bt ps) (ys.length - 1)]? = some v → Q v H
theorem vals_at : ∀ {vs : List V} {us : List Value} {i : Nat} {u : Value}, Vals vs us → us[i]? = some u → ∃ v, vs[i]? = some v ∧ RelV v u
  | _, _, _, _, .nil, h => by simp at h
  | _, _, 0, _, .cons r _, h => by simp at h; subst h; exact ⟨_, rfl, r⟩
  | _, _, i + 1, _, .cons _ r, h => by
    obtain ⟨v, h1, h2⟩ := vals_at (i := i) r (by simpa using h)
    exact ⟨v, by simpa using h1, h2⟩
theorem cr_minP (hc : X.calm = true) (hu : X.A.units + 65 < cLine) : CallR X (.builtin "min") (rBestP X.K btP) := by
  intro pins s σ H vs us Q I r h
  obtain ⟨a, ys, ps, rfl, hs, hd, hal, hdp, hn, q⟩ := h
  rw [Vals.ref1 r]
  rcases hs with hs | hs
  · obtain ⟨its, rv, hl, _⟩ := I.list hs
    obtain ⟨as, hr⟩ := Dp.readsAll I ps ys its hd rv
    have hlen : its.toArray.size = ys.length := by rw [List.size_toArray]; exact rv.length.symm
    refine call_min_walkH (PySem.W.iter_listW (A := X.A.in1) (I.ok.hd hc) hl.isList fun s₂ e W st hfp hw hk => ?_)
    refine ⟨_, _, _, _, _, _, _, s.heap, _, rfl, W, st, hfp, by omega, hw, hk, PySem.W.cmpIn_lt (A := X.A.in1) (vs := its.toArray) hr hal (by show X.A.units + 1 + _ < _; omega), fun v s' hP m => ?_⟩
    obtain ⟨h', tk, rfl, hk'⟩ := PySem.W.moved_old e rfl m
    rw [hlen] at hP
    obtain ⟨y, h1, h2⟩ := vals_at rv (show its[argBest (btP ps) (ys.length - 1)]? = some v by rw [← List.getElem?_toArray]; exact hP)
    exact ⟨y, H, I.kept hk', h2, q y h1⟩
  · obtain ⟨its, rv, hl, _⟩ := I.tuple hs
    obtain ⟨as, hr⟩ := Dp.readsAll I ps ys its hd rv
    have hlen : its.toArray.size = ys.length := by rw [List.size_toArray]; exact rv.length.symm
    have hl' : s.heap.IsTuple a its.toArray := by
      obtain ⟨o, ho, hcls, n, hd⟩ := hl
      exact ⟨o, ho, hcls, n, hd⟩
    refine call_min_walkH (PySem.W.iter_tupleW (A := X.A.in1) (I.ok.hd hc) hl' fun s₂ e W st hfp hw hk => ?_)
    refine ⟨_, _, _, _, _, _, _, s.heap, _, rfl, W, st, hfp, by omega, hw, hk, PySem.W.cmpIn_lt (A := X.A.in1) (vs := its.toArray) hr hal (by show X.A.units + 1 + _ < _; omega), fun v s' hP m => ?_⟩
    obtain ⟨h', tk, rfl, hk'⟩ := PySem.W.moved_old e rfl m
    rw [hlen] at hP
    obtain ⟨y, h1, h2⟩ := vals_at rv (show its[argBest (btP ps) (ys.length - 1)]? = some v by rw [← List.getElem?_toArray]; exact hP)
    exact ⟨y, H, I.kept hk', h2, q y h1⟩
theorem cr_maxP (hc : X.calm = true) (hu : X.A.units + 65 < cLine) : CallR X (.builtin "max") (rBestP X.K btPm) := by
  intro pins s σ H vs us Q I r h
  obtain ⟨a, ys, ps, rfl, hs, hd, hal, hdp, hn, q⟩ := h
  rw [Vals.ref1 r]
  rcases hs with hs | hs
  · obtain ⟨its, rv, hl, _⟩ := I.list hs
    obtain ⟨as, hr⟩ := Dp.readsAll I ps ys its hd rv
    have hlen : its.toArray.size = ys.length := by rw [List.size_toArray]; exact rv.length.symm
    refine call_max_walkH (PySem.W.iter_listW (A := X.A.in1) (I.ok.hd hc) hl.isList fun s₂ e W st hfp hw hk => ?_)
    refine ⟨_, _, _, _, _, _, _, s.heap, _, rfl, W, st, hfp, by omega, hw, hk, PySem.W.cmpIn_gt (A := X.A.in1) (vs := its.toArray) hr hal (by show X.A.units + 1 + _ < _; omega), fun v s' hP m => ?_⟩
    obtain ⟨h', tk, rfl, hk'⟩ := PySem.W.moved_old e rfl m
    rw [hlen] at hP
    obtain ⟨y, h1, h2⟩ := vals_at rv (show its[argBest (btPm ps) (ys.length - 1)]? = some v by rw [← List.getElem?_toArray]; exact hP)
    exact ⟨y, H, I.kept hk', h2, q y h1⟩
  · obtain ⟨its, rv, hl, _⟩ := I.tuple hs
    obtain ⟨as, hr⟩ := Dp.readsAll I ps ys its hd rv
    have hlen : its.toArray.size = ys.length := by rw [List.size_toArray]; exact rv.length.symm
    have hl' : s.heap.IsTuple a its.toArray := by
      obtain ⟨o, ho, hcls, n, hd⟩ := hl
      exact ⟨o, ho, hcls, n, hd⟩
    refine call_max_walkH (PySem.W.iter_tupleW (A := X.A.in1) (I.ok.hd hc) hl' fun s₂ e W st hfp hw hk => ?_)
    refine ⟨_, _, _, _, _, _, _, s.heap, _, rfl, W, st, hfp, by omega, hw, hk, PySem.W.cmpIn_gt (A := X.A.in1) (vs := its.toArray) hr hal (by show X.A.units + 1 + _ < _; omega), fun v s' hP m => ?_⟩
    obtain ⟨h', tk, rfl, hk'⟩ := PySem.W.moved_old e rfl m
    rw [hlen] at hP
    obtain ⟨y, h1, h2⟩ := vals_at rv (show its[argBest (btPm ps) (ys.length - 1)]? = some v by rw [← List.getElem?_toArray]; exact hP)
    exact ⟨y, H, I.kept hk', h2, q y h1⟩
def rMin2P (K : PySem.W.Frag) : List V → Hp → VK → Prop := fun vs H Q => ∃ (x y : V) (d e : PyData), vs = [x, y] ∧ Dp K H x d ∧ Dp K H y e ∧ PySem.W.AlikeAll [d, e] ∧ PyData.depthAll [d, e] ≤ 64 ∧ Q (if PySem.W.dataLt e d = true then y else x) H
theorem cr_min2P (hc : X.calm = true) (hu : X.A.units + 65 < cLine) : CallR X (.builtin "min") (rMin2P X.K) := by
  intro pins s σ H vs us Q I r h
  obtain ⟨x, y, d, e, rfl, hx, hy, hal, hdp, q⟩ := h
  obtain ⟨u, w', rfl, r1, r2⟩ := vals2 r
  obtain ⟨as, hr⟩ := Dp.readsAll I [d, e] [x, y] [u, w'] (.cons hx (.cons hy .nil)) (.cons r1 (.cons r2 .nil))
  have hT : (s.heap.push { cls := .type "tuple", data := .seq #[u, w'] }).IsTuple s.heap.objs.size #[u, w'] := ⟨_, Heap.get?_push_size _ rfl, rfl, 0, rfl⟩
  have kp : ∀ b o, s.heap.get? b = some o → (s.heap.push { cls := .type "tuple", data := .seq #[u, w'] }).get? b = some o := fun b o e => Heap.get?_push_of_some _ e
  have hr' : ReadsAll (s.heap.push { cls := .type "tuple", data := .seq #[u, w'] }) [u, w'] [d, e] as := ReadsAll.keeps kp hr
  refine ev_call_min_twoH (PySem.W.iter_tupleW (s := { s with heap := s.heap.push { cls := .type "tuple", data := .seq #[u, w'] } }) (A := X.A.in1) (I.ok.hd hc) hT fun s₂ e2 W st hfp hw hk => ?_)
  refine ⟨_, _, _, _, _, _, _, (s.heap.push { cls := .type "tuple", data := .seq #[u, w'] }), _, rfl, W, st, hfp, by simp, hw, hk, PySem.W.cmpIn_lt (s := { s with heap := s.heap.push { cls := .type "tuple", data := .seq #[u, w'] } }) (A := X.A.in1) (vs := #[u, w']) hr' hal (by show X.A.units + 1 + _ < _; omega), fun v s' hP m => ?_⟩
  obtain ⟨h', tk, rfl, hk'⟩ := PySem.W.moved_old e2 rfl m
  have ik : Inv X pins σ H { s with heap := h', toks := tk } := I.kept fun b o eb => hk' b o (kp b o eb)
  have hv : (#[u, w'] : Array Value)[argBest (btP [d, e]) 1]? = some v := hP
  by_cases hb : PySem.W.dataLt e d = true
  · have ea : argBest (btP [d, e]) 1 = 1 := if_pos hb
    rw [ea] at hv
    obtain rfl : w' = v := by simpa using hv
    rw [if_pos hb] at q
    exact ⟨y, H, ik, r2, q⟩
  · have ea : argBest (btP [d, e]) 1 = 0 := if_neg hb
    rw [ea] at hv
    obtain rfl : u = v := by simpa using hv
    rw [if_neg hb] at q
    exact ⟨x, H, ik, r1, q⟩

/-! ### by data -/
def alkAll (ds : List D) : Bool := layL ds && decide (depL ds ≤ 64) && ds.all fun a => ds.all fun b => a.alk b
theorem alkAll_of {ds : List D} (h : alkAll ds = true) : layL ds = true ∧ depL ds ≤ 64 ∧ ∀ a, a ∈ ds → ∀ b, b ∈ ds → a.alk b = true := by
  unfold alkAll at h
  rw [Bool.and_eq_true, Bool.and_eq_true, decide_eq_true_eq, List.all_eq_true] at h
  exact ⟨h.1.1, h.1.2, fun a ha b hb => List.all_eq_true.mp (h.2 a ha) b hb⟩
theorem layL_mem : ∀ {ds : List D}, layL ds = true → ∀ d, d ∈ ds → d.lay = true
  | [], _, d, h => nomatch h
  | x :: xs, h, d, hm => by
    have h' : (x.lay && layL xs) = true := h
    rw [Bool.and_eq_true] at h'
    rcases List.mem_cons.mp hm with rfl | hm
    · exact h'.1
    · exact layL_mem h'.2 d hm
theorem alkAll_py {ds : List D} (h : alkAll ds = true) : PySem.W.AlikeAll (pyL ds) ∧ PyData.depthAll (pyL ds) ≤ 64 := by
  obtain ⟨h1, h2, h3⟩ := alkAll_of h
  refine ⟨⟨fun x hx y hy => ?_, fun x hx => ?_⟩, by rw [pyL_dep _ h1]; exact h2⟩
  · rw [pyL_map] at hx hy
    obtain ⟨a, ha, rfl⟩ := List.mem_map.mp hx
    obtain ⟨b, hb, rfl⟩ := List.mem_map.mp hy
    exact py_alk a b (layL_mem h1 a ha) (layL_mem h1 b hb) (h3 a ha b hb)
  · rw [pyL_map] at hx
    obtain ⟨a, ha, rfl⟩ := List.mem_map.mp hx
    exact py_none (h3 a ha a ha)
def bestD (f : D → D → Bool) (x : D) (xs : List D) : D := xs.foldl (fun a y => if f y a then y else a) x
theorem argBest_congr {f g : Nat → Nat → Bool} {n : Nat} (h : ∀ i j, i ≤ n → j ≤ n → f i j = g i j) : argBest f n = argBest g n ∧ argBest f n ≤ n := by
  induction n with
  | zero => exact ⟨rfl, Nat.le_refl _⟩
  | succ n ih =>
    obtain ⟨e, l⟩ := ih fun i j hi hj => h i j (by omega) (by omega)
    have eq1 : argBest f (n + 1) = if f (n + 1) (argBest f n) = true then n + 1 else argBest f n := rfl
    have eq2 : argBest g (n + 1) = if g (n + 1) (argBest g n) = true then n + 1 else argBest g n := rfl
    rw [eq1, eq2, ← e, h (n + 1) (argBest f n) (Nat.le_refl _) (by omega)]
    refine ⟨rfl, ?_⟩
    split <;> omega
theorem best_at {f : D → D → Bool} {p : PyData → PyData → Bool} {x : D} {xs : List D} (h1 : layL (x :: xs) = true) (hf : ∀ a b : D, a.lay = true → b.lay = true → p a.py b.py = f a b) :
    (x :: xs)[argBest (fun i j => p ((pyL (x :: xs)).getD i .none) ((pyL (x :: xs)).getD j .none)) xs.length]? = some (bestD f x xs) := by
  have hg : ∀ i, i ≤ xs.length → ((pyL (x :: xs)).getD i .none) = ((x :: xs).getD i .non).py ∧ ((x :: xs).getD i .non).lay = true := fun i hi => by
    have hi' : i < (x :: xs).length := by rw [List.length_cons]; omega
    have e : (x :: xs)[i]? = some ((x :: xs)[i]) := List.getElem?_eq_getElem hi'
    rw [pyL_map, List.getD_eq_getElem?_getD, List.getD_eq_getElem?_getD, List.getElem?_map, e]
    exact ⟨rfl, layL_mem h1 _ (List.getElem_mem hi')⟩
  have c := argBest_congr (f := fun i j => p ((pyL (x :: xs)).getD i .none) ((pyL (x :: xs)).getD j .none)) (g := fun i j => f ((x :: xs).getD i .non) ((x :: xs).getD j .non)) (n := xs.length) fun i j hi hj => by
    show p _ _ = f _ _
    rw [(hg i hi).1, (hg j hj).1, hf _ _ (hg i hi).2 (hg j hj).2]
  obtain ⟨b1, b2⟩ := PySem.W.argBest_fold f D.non x xs xs.length (Nat.le_refl _)
  rw [List.take_length] at b2
  rw [c.1]
  have hb : argBest (fun i j => f ((x :: xs).getD i .non) ((x :: xs).getD j .non)) xs.length < (x :: xs).length := by rw [List.length_cons]; omega
  unfold bestD
  rw [← b2, List.getD_eq_getElem?_getD, List.getElem?_eq_getElem hb]
  rfl
def seqD : D → Option (List D)
  | .lst xs => some xs
  | .tup xs => some xs
  | _ => none
def bBest (f : D → D → Bool) : List D → Option D
  | [d] => match seqD d with
    | some (x :: xs) => if alkAll (x :: xs) = true then some (bestD f x xs) else none
    | _ => none
  | _ => none
theorem RT.seq {K : PySem.W.Frag} {T : Nat → Option Addr} {O : Addr → Prop} {H : Hp} {v : V} {d : D} {ds : List D} (h : RT K T O H v d) (e : seqD d = some ds) : ∃ a vs, v = .ref a ∧ (SqL K H a vs ∨ SqT K H a vs) ∧ Reps K T O H vs ds := by
  cases d <;> first | (cases e; done) | skip
  · cases e
    obtain ⟨a, vs, rfl, h1, h2⟩ := h.tup
    exact ⟨a, vs, rfl, .inr h1.sq, h2⟩
  · cases e
    obtain ⟨a, vs, rfl, h1, h2⟩ := h.lst
    exact ⟨a, vs, rfl, .inl (.inl h1), h2⟩
theorem cd_best {id : String} {f : D → D → Bool} {p : PyData → PyData → Bool} (hf : ∀ a b : D, a.lay = true → b.lay = true → p a.py b.py = f a b) (h : CallR X (.builtin id) (rBestP X.K fun ps i j => p (ps.getD i .none) (ps.getD j .none))) : CalD X (.builtin id) (bBest f) := by
  refine ⟨_, h, fun T O H vs ds d Q oh rt e w => ?_⟩
  unfold bBest at e
  split at e
  · rename_i d0
    split at e
    · rename_i x xs hs
      split at e
      · rename_i ha
        cases e
        obtain ⟨v, rfl, h⟩ := rt.one
        obtain ⟨a, ys, rfl, h1, h2⟩ := h.seq hs
        have hl := h2.length
        rw [List.length_cons] at hl
        obtain ⟨a1, a2⟩ := alkAll_py ha
        have ba := best_at (p := p) (f := f) (alkAll_of ha).1 hf
        refine ⟨a, ys, pyL (x :: xs), rfl, h1, (Reps.dp _ _ h2 (alkAll_of ha).1).1, a1, a2, by omega, fun v hv => ?_⟩
        rw [hl] at hv
        exact w v H (Ex.refl H) (h2.get' hv ba)
      · cases e
    · cases e
  · cases e
def bMin1 := bBest D.ltb
def bMax1 := bBest (fun a b => b.ltb a)
theorem cd_min1 (hc : X.calm = true) (hu : X.A.units + 65 < cLine) : CalD X (.builtin "min") bMin1 := cd_best (p := fun a b => PySem.W.dataLt a b) (fun a b ha hb => py_lt ha hb) (cr_minP hc hu)
theorem cd_max1 (hc : X.calm = true) (hu : X.A.units + 65 < cLine) : CalD X (.builtin "max") bMax1 := cd_best (p := fun a b => PySem.W.dataLt b a) (fun a b ha hb => py_lt hb ha) (cr_maxP hc hu)
def D.top : D → Bool
  | .lst _ => false
  | .dk _ => false
  | .dt _ => false
  | _ => true
theorem RT.rep {K : PySem.W.Frag} {T : Nat → Option Addr} {O : Addr → Prop} {H : Hp} {v : V} {d : D} (h : RT K T O H v d) (e : d.top = true) : Rep K T O H v d := by
  rcases h with h | ⟨a, rfl, h⟩
  · exact h
  · cases d <;> first | exact h.elim | cases e
def bMin2D : List D → Option D
  | [d, e] => if (d.top && e.top && alkAll [d, e]) = true then some (if e.ltb d = true then e else d) else none
  | _ => none
theorem cd_min2D (hc : X.calm = true) (hu : X.A.units + 65 < cLine) : CalD X (.builtin "min") bMin2D := by
  refine ⟨_, cr_min2P hc hu, fun T O H vs ds d Q oh rt e w => ?_⟩
  unfold bMin2D at e
  split at e
  · rename_i d1 d2
    split at e
    · rename_i ha
      cases e
      rw [Bool.and_eq_true, Bool.and_eq_true] at ha
      obtain ⟨⟨t1, t2⟩, ha⟩ := ha
      obtain ⟨v, v', rfl, h, h'⟩ := rt.two
      obtain ⟨a1, a2⟩ := alkAll_py ha
      have l1 := layL_mem (alkAll_of ha).1 d1 (by simp)
      have l2 := layL_mem (alkAll_of ha).1 d2 (by simp)
      refine ⟨v, v', d1.py, d2.py, rfl, (h.dp l1).1, (h'.dp l2).1, a1, a2, ?_⟩
      rw [py_lt l2 l1]
      by_cases hb : d2.ltb d1 = true
      · rw [if_pos hb] at w ⊢
        exact w v' H (Ex.refl H) (h'.rep t2)
      · rw [if_neg hb] at w ⊢
        exact w v H (Ex.refl H) (h.rep t1)
    · cases e
  · cases e
def bSumT : List D → Option D
  | [.tup xs] => (dInts xs).map fun ns => .int ns.sum
  | _ => none
theorem cd_sumT (hc : X.calm = true) : CalD X (.builtin "sum") bSumT := by
  refine ⟨_, cr_sumT hc, fun T O H vs ds d Q oh rt e w => ?_⟩
  unfold bSumT at e
  split at e
  · obtain ⟨bs, e1, rfl⟩ := map_some' e
    obtain rfl := ints_eq e1
    obtain ⟨v, rfl, h⟩ := rt.one
    obtain ⟨a, vs, rfl, h1, h2⟩ := h.tup
    obtain rfl := h2.ints
    exact ⟨a, bs, rfl, h1.sq, w _ H (Ex.refl H) (.int _)⟩
  · cases e
def bSumA (ds : List D) : Option D := (bSum ds).or (bSumT ds)
theorem cd_sumA (hc : X.calm = true) : CalD X (.builtin "sum") bSumA := (cd_sum hc).or (cd_sumT hc)
end
end EV

namespace EV
open PySem PySem.Spec L2 SX
open PyProof.Rows hiding St
section
variable {X : Cx} {S : ES} {W : WX} {pos p q : Pos} {a b e : Expr} {fa fb fe : SE}

/-! ### isinstance -/
/-- 0 int, 1 bool, 2 str, 3 tuple, 4 list, 5 dict -/
def tyName : Nat → String
  | 0 => "int" | 1 => "bool" | 2 => "str" | 3 => "tuple" | 4 => "list" | _ => "dict"
def isD (k : Nat) : D → Option Bool
  | .non => some false
  | .bl _ => some (k == 0 || k == 1)
  | .int _ => some (k == 0)
  | .str _ => some (k == 2)
  | .tup _ => some (k == 3)
  | .lst _ => some (k == 4)
  | .dk _ => some (k == 5)
  | _ => none
theorem tyx_lst {K : PySem.W.Frag} {H : Hp} {a : Addr} {vs : List V} (h : Rd H a (.lst vs)) : TyX K H (.ref a) (.type "list") := by
  rcases h with h | ⟨o, h⟩
  · exact .base (.lst h)
  · exact .base (.frz h)
theorem tyx_tup {K : PySem.W.Frag} {O : Addr → Prop} {H : Hp} {a : Addr} {vs : List V} (h : ShT K O H a vs) : TyX K H (.ref a) (.type "tuple") := by
  rcases h with ⟨_, h⟩ | ⟨o, its, n, h1, h2, _⟩
  · rcases h with h | ⟨o, h⟩
    · exact .base (.tup h)
    · exact .fTuple h
  · exact .kTuple h1 h2
theorem tyx_dk {K : PySem.W.Frag} {H : Hp} {a : Addr} {vs : List (Key × V)} (h : Rd H a (.dK vs)) : TyX K H (.ref a) (.type "dict") := by
  rcases h with h | ⟨o, h⟩
  · exact .base (.dK h)
  · exact .fDict h
theorem isi_ty {K : PySem.W.Frag} {T : Nat → Option Addr} {O : Addr → Prop} {H : Hp} {v : V} {d : D} {k : Nat} {r : Bool} (hk : k ≤ 5) (h : RT K T O H v d) (e : isD k d = some r) : ∃ t, TyX K H v (.type t) ∧ kitB t (tyName k) = some r := by
  have six : k = 0 ∨ k = 1 ∨ k = 2 ∨ k = 3 ∨ k = 4 ∨ k = 5 := by omega
  cases d with
  | non => cases e; rw [h.non]; refine ⟨_, .base .non, ?_⟩; rcases six with rfl | rfl | rfl | rfl | rfl | rfl <;> decide +kernel
  | bl b => cases e; rw [h.bl]; refine ⟨_, .base (.bl b), ?_⟩; rcases six with rfl | rfl | rfl | rfl | rfl | rfl <;> decide +kernel
  | int b => cases e; rw [h.int]; refine ⟨_, .base (.int b), ?_⟩; rcases six with rfl | rfl | rfl | rfl | rfl | rfl <;> decide +kernel
  | str b => cases e; rw [h.str]; refine ⟨_, .base (.str _), ?_⟩; rcases six with rfl | rfl | rfl | rfl | rfl | rfl <;> decide +kernel
  | tup b => cases e; obtain ⟨a, vs, rfl, h1, _⟩ := h.tup; refine ⟨_, tyx_tup h1, ?_⟩; rcases six with rfl | rfl | rfl | rfl | rfl | rfl <;> decide +kernel
  | lst b => cases e; obtain ⟨a, vs, rfl, h1, _⟩ := h.lst; refine ⟨_, tyx_lst h1, ?_⟩; rcases six with rfl | rfl | rfl | rfl | rfl | rfl <;> decide +kernel
  | dk b =>
    cases e
    have : ∃ a vs, v = .ref a ∧ Rd H a (.dK vs) := by
      rcases h with h | ⟨a, rfl, h⟩
      · cases h with
        | dk h0 h1 h2 => exact ⟨_, _, rfl, h1⟩
      · obtain ⟨vs, h1, h2⟩ := h
        exact ⟨a, vs, rfl, .inl h1⟩
    obtain ⟨a, vs, rfl, h1⟩ := this
    refine ⟨_, tyx_dk h1, ?_⟩; rcases six with rfl | rfl | rfl | rfl | rfl | rfl <;> decide +kernel
  | _ => cases e
def eIsi (k : Nat) (f : SE) : SE := fun ρ => f ρ >>= fun r => deref r.2 r.1 >>= fun d => ofOpt (isD k d) >>= fun b => .ok (.val (.bl b), r.2)
theorem ev_isi (k : Nat) {x : Str} (hk : k ≤ 5) (hg : Gl X "isinstance") (hm : X.mg "isinstance" = none) (hg2 : Gl X x) (hm2 : X.mg x = none) (hv : bootBuiltins x = some (.type (tyName k))) (he : EvE X S W e fe) (hn : x ≠ "__name__" := by decide) (hd : (x == ("__debug__" : Str)) = false := by decide)
    (hs : starEach [e, .Name x q] X.env = (false, eval e X.env) :: starEach [.Name x q] X.env := by rfl) (hpl : (backTo pos (starEach [.Name x q] X.env)).any (·.1) = false := by rfl) : EvE X S W (.Call (.Name "isinstance" p) [e, .Name x q] [] pos) (eIsi k fe) := by
  obtain ⟨t, pt, qt⟩ := he
  have pv : PE X (.Name x q) (tC (.ty (tyName k))) := pe_bltn hg2 hm2 hv rfl hn hd
  refine ⟨_, pe_callB call_isi hg hm (by decide +kernel) (pa_cons pt (pa_cons pv pa_nil) hs) (he := hs) (hpl := hpl), fun C σ H ρ Q E w => ?_⟩
  refine qt C σ H ρ _ E ((Wp.bind w).mono (fun _ _ h => h) fun r1 _ w1 v1 H1 E1 A1 R1 => ?_)
  obtain ⟨d, e1, w2⟩ := deref_wp w1
  obtain ⟨r, e2, w3⟩ := opt_wp w2
  obtain ⟨ty, h1, h2⟩ := isi_ty hk (R1.rt E1 e1) e2
  exact ⟨v1, .ty (tyName k), .type ty, .type (tyName k), r, rfl, .ty _, h1, kit_ty h2, w3 _ H1 E1 A1 (Rep.bl r)⟩

/-! ### str(int), join -/
def bStr : List D → Option D
  | [.int i] => if 0 ≤ i ∧ i < 1000000 then some (.str (TL.numL i.toNat)) else none
  | [.str s] => some (.str s)
  | _ => none
theorem numL_ok (n : Nat) : okS (TL.numL n) := fun c hc => by
  have := TL.numL_digits n c hc
  omega
theorem cd_str : CalD X (.type "str") bStr := by
  refine ⟨_, CallR.or call_str_int SkE.call_str_str, fun T O H vs ds d Q oh rt e w => ?_⟩
  unfold bStr at e
  split at e
  · rename_i i
    split at e
    · rename_i hi
      cases e
      obtain ⟨v, rfl, h⟩ := rt.one
      refine .inl ⟨i, by rw [h.int], ?_, ?_⟩
      · have : i.natAbs < 2 ^ 1920 := by
          have : (1000000 : Nat) < 2 ^ 1920 := by decide +kernel
          omega
        by_cases z : i.natAbs = 0
        · rw [z]; decide
        · exact (Nat.log2_lt z).mpr this
      · have e1 : (((i.toNat : Nat) : Int)) = i := by omega
        have := SX.num_S i.toNat
        rw [e1] at this
        show Q (.str (Str.ofString (toString i))) H
        rw [this]
        exact w _ H (Ex.refl H) (.str _ (numL_ok _))
    · cases e
  · cases e
    obtain ⟨v, rfl, h⟩ := rt.one
    exact .inr ⟨_, by rw [h.str], w _ H (Ex.refl H) (.str _ h.okS)⟩
  · cases e
def sizeJ (a : List Nat) (ss : List (List Nat)) : Nat := (ss.map List.length).sum + ss.length * a.length
def dJoin (a d : D) : Option D := match a with
  | .str s => (seqD d).bind fun xs => (dStrs xs).bind fun ss => if sizeJ s ss ≤ LIM then some (.str (TL.joinL s ss)) else none
  | _ => none
theorem joinL_ok {s : List Nat} (hs : okS s) : ∀ {ss : List (List Nat)}, (∀ x, x ∈ ss → okS x) → okS (TL.joinL s ss)
  | [], _ => fun c hc => nomatch hc
  | [p], h => h p (by simp)
  | p :: q :: r, h => by
    show okS (p ++ (s ++ TL.joinL s (q :: r)))
    exact okS_append (h p (by simp)) (okS_append hs (joinL_ok hs fun x hx => h x (List.mem_cons_of_mem _ hx)))
theorem map_S_len (ss : List (List Nat)) : ((ss.map SX.S).map (·.length)).sum = (ss.map List.length).sum := by
  rw [List.map_map]
  congr 1
def asS : DV → Option (List Nat)
  | .val (.str s) => some s
  | _ => none
theorem RV.str {C : EC} {σ : St} {H : Hp} {ρ : Env} {v : V} {x : DV} {s : List Nat} (h : RV X.K S C σ H ρ v x) (e : asS x = some s) : v = .str (SX.S s) ∧ okS s := by
  cases x with
  | val d =>
    cases d with
    | str k' =>
      have e' : some k' = some s := e
      cases e'
      have h' : Rep X.K S.T (C.O S σ ρ) H v (.str s) := h
      cases h' with
      | str _ o => exact ⟨rfl, o⟩
    | _ => cases e
  | plc i => cases e
def eJoin (f g : SE) : SE := fun ρ => f ρ >>= fun r => ofOpt (asS r.1) >>= fun s => g r.2 >>= fun r2 => deref r2.2 r2.1 >>= fun d => ofOpt (dJoin (.str s) d) >>= fun d' => .ok (.val d', r2.2)
theorem dJoin_some {s : List Nat} {d d' : D} (h : dJoin (.str s) d = some d') : ∃ xs ss, seqD d = some xs ∧ xs = ss.map D.str ∧ sizeJ s ss ≤ LIM ∧ d' = .str (TL.joinL s ss) := by
  have h' : ((seqD d).bind fun xs => (dStrs xs).bind fun ss => if sizeJ s ss ≤ LIM then some (D.str (TL.joinL s ss)) else none) = some d' := h
  cases q : seqD d with
  | none => rw [q] at h'; cases h'
  | some xs =>
    rw [q] at h'
    have h'' : ((dStrs xs).bind fun ss => if sizeJ s ss ≤ LIM then some (D.str (TL.joinL s ss)) else none) = some d' := h'
    cases q2 : dStrs xs with
    | none => rw [q2] at h''; cases h''
    | some ss =>
      rw [q2] at h''
      have h3 : (if sizeJ s ss ≤ LIM then some (D.str (TL.joinL s ss)) else none) = some d' := h''
      split at h3
      · rename_i c
        cases h3
        exact ⟨xs, ss, rfl, strs_eq q2, c, rfl⟩
      · cases h3
theorem ev_join {apos : Pos} (ho : EvE X S W a fa) (he : EvE X S W e fe) (hs : starEach [e] X.env = [(false, eval e X.env)] := by rfl) (hbase : attributeBase a "join" X.env (eval a X.env) = eval a X.env := by rfl) (hline : (apos.endLine == pos.line) = true := by rfl) :
    EvE X S W (.Call (.Attribute a "join" apos) [e] [] pos) (eJoin fa fe) := by
  obtain ⟨ta, pa, qa⟩ := ho
  obtain ⟨tb, pb, qb⟩ := he
  refine ⟨_, pe_join pa pb hs hbase hline, fun C σ H ρ Q E w => ?_⟩
  refine qa C σ H ρ _ E ((Wp.bind w).mono (fun _ _ h => h) fun r1 _ w1 v1 H1 E1 A1 R1 => ?_)
  obtain ⟨s, e1, w2⟩ := opt_wp w1
  obtain ⟨ev, os⟩ := R1.str e1
  refine ⟨⟨_, ev⟩, ?_⟩
  refine qb C σ H1 r1.2 _ E1 ((Wp.bind w2).mono (fun _ _ h => h) fun r2 _ w3 v2 H2 E2 A2 R2 => ?_)
  obtain ⟨d, e2, w4⟩ := deref_wp w3
  obtain ⟨d', e3, w5⟩ := opt_wp w4
  obtain ⟨xs, ss, e4, rfl, hl, rfl⟩ := dJoin_some e3
  obtain ⟨p', vs, rfl, h1, h2⟩ := (R2.rt E2 e2).seq e4
  obtain ⟨rfl, oks⟩ := h2.strs
  refine ⟨SX.S s, p', ss.map SX.S, ev, rfl, h1, ?_, ?_⟩
  · rw [map_S_len, List.length_map, S_len]
    exact hl
  · rw [join_S]
    exact w5 _ H2 E2 (A1.trans A2) (Rep.str _ (joinL_ok os oks))

/-! ### xs.append(e) -/
def plcOf : DV → Option Nat
  | .plc i => some i
  | _ => none
def addTo (d : D) : D → Option D
  | .lst ds => if ds.length < LIM then some (.lst (ds ++ [d])) else none
  | _ => none
def eApp (f g : SE) : SE := fun ρ => f ρ >>= fun r => ofOpt (plcOf r.1) >>= fun i => ofOpt (gt r.2 i) >>= fun d0 => ofOpt (seqLst d0) >>= fun _ => g r.2 >>= fun r2 => ofOpt (valOf r2.1) >>= fun d => ofOpt (gt r2.2 i) >>= fun l => ofOpt (addTo d l) >>= fun l' => .ok (.val .non, st r2.2 i (some l'))
where seqLst : D → Option Unit
  | .lst _ => some ()
  | _ => none
theorem plcOf_eq {x : DV} {i : Nat} (h : plcOf x = some i) : x = .plc i := by
  cases x with
  | val d => cases h
  | plc j => cases h; rfl
theorem addTo_some {d l l' : D} (h : addTo d l = some l') : ∃ ds, l = .lst ds ∧ ds.length < LIM ∧ l' = .lst (ds ++ [d]) := by
  unfold addTo at h
  split at h
  · split at h
    · cases h
      exact ⟨_, rfl, by assumption, rfl⟩
    · cases h
  · cases h
theorem ev_app {apos : Pos} (ho : EvE X S W a fa) (he : EvE X S W e fe) (hs : starEach [e] X.env = (false, eval e X.env) :: starEach [] X.env := by rfl)
    (hbase : attributeBase a "append" X.env (eval a X.env) = eval a X.env := by rfl)
    (hfew : ((backTo pos (starEach [e] X.env)).all (fun x => !x.1) && (backToKw pos (keywordEach [] X.env)).all (fun x => x.1.isSome)
      && decide (([e] : List Expr).length + ([] : List Keyword).length + (if ([] : List Keyword).isEmpty then 0 else 1) < 30)) = true := by rfl)
    (hline : (apos.endLine == pos.line) = true := by rfl) (hplain : (backTo pos (starEach [] X.env)).any (·.1) = false := by rfl) :
    EvE X S W (.Call (.Attribute a "append" apos) [e] [] pos) (eApp fa fe) := by
  obtain ⟨ta, pa, qa⟩ := ho
  obtain ⟨tb, pb, qb⟩ := he
  refine ⟨_, pe_bm PySem.F.plainAttrs_list PySem.F.slot_list_append F.type_list_append mt_append pa (pa_cons pb pa_nil hs) hbase hfew hline hs hplain, fun C σ H ρ Q E w => ?_⟩
  refine qa C σ H ρ _ E ((Wp.bind w).mono (fun _ _ h => h) fun r1 _ w1 v1 H1 E1 A1 R1 => ?_)
  obtain ⟨i, e1, w2⟩ := opt_wp w1
  obtain ⟨d0, e2, w3⟩ := opt_wp w2
  obtain ⟨u, e3, w4⟩ := opt_wp w3
  rw [plcOf_eq e1] at R1
  obtain ⟨hi, hs1⟩ := R1
  obtain ⟨ad, e4, ow, _⟩ := E1.own i d0 hi e2
  rw [hs1] at e4
  obtain rfl : v1 = .ref ad := by simpa using e4
  have ty : tyV X.K "list" (.ref ad) H1 := by
    cases d0 <;> first | cases e3 | skip
    obtain ⟨vs, h1, _⟩ := ow
    exact .inl ⟨rfl, vs, .inl (.inl h1)⟩
  refine ⟨ty, ?_⟩
  refine qb C σ H1 r1.2 _ E1 ((Wp.bind w4).mono (fun _ _ h => h) fun r2 _ w5 v2 H2 E2 A2 R2 => ?_)
  obtain ⟨d, e5, w6⟩ := opt_wp w5
  obtain ⟨l, e6, w7⟩ := opt_wp w6
  obtain ⟨l', e7, w8⟩ := opt_wp w7
  obtain ⟨ds, rfl, hl, rfl⟩ := addTo_some e7
  obtain ⟨ad2, e8, ow2, _⟩ := E2.own i _ hi e6
  rw [hs1] at e8
  obtain rfl : ad = ad2 := V.ref.inj (Option.some.inj (Option.some.inj e8))
  obtain ⟨vs, h1, h2⟩ := ow2
  have rp := R2.val e5
  refine ⟨ad, vs, v2, rfl, rfl, h1, by rw [h2.length, lim_eq]; exact hl, ?_⟩
  have oa : C.O S σ r2.2 ad := .inr ⟨i, hi, some_ne e6, hs1⟩
  have ra : RA (C.O S σ r2.2) H2 (C.O S σ r2.2) (upd H2 ad (.lst (vs ++ [v2]))) := ⟨fun b u nb hb => by
    have ne : b ≠ ad := fun z => nb (z ▸ oa)
    rcases hb with hb | ⟨o, hb⟩
    · exact .inl (by rw [upd_ne ne]; exact hb)
    · exact .inr ⟨o, by rw [upd_ne ne]; exact hb⟩, fun b z => .inl z, fun b hb => by
      by_cases z : b = ad
      · subst z; rw [upd_same]; exact some_ne rfl
      · rw [upd_ne z]; exact hb⟩
  have E3 := E2.mut (u := .lst (vs ++ [v2])) (d := .lst (ds ++ [d])) hi e6 hs1 trivial ⟨vs ++ [v2], upd_same, (h2.adv ra).snoc (rp.adv ra)⟩
  exact w8 _ _ E3 ((A1.trans A2).trans (adv_mut hi e6 hs1)) Rep.non

/-! ### xs[i] = e -/
def setAt (k : Int) (d : D) : D → Option D
  | .lst ds => (ixN ds.length k).map fun j => .lst (ds.set j d)
  | _ => none
theorem Reps.set {K : PySem.W.Frag} {T : Nat → Option Addr} {O : Addr → Prop} {H : Hp} {v : V} {d : D} : ∀ {vs : List V} {ds : List D} (j : Nat), Reps K T O H vs ds → Rep K T O H v d → Reps K T O H (vs.set j v) (ds.set j d)
  | _, _, _, .nil, _ => .nil
  | _, _, 0, .cons _ h, r => .cons r h
  | _, _, j + 1, .cons h1 h, r => .cons h1 (h.set j r)
def sStL (f o i : SE) : SS := fun ρ => f ρ >>= fun r => ofOpt (valOf r.1) >>= fun d => o r.2 >>= fun r1 => ofOpt (plcOf r1.1) >>= fun s => i r1.2 >>= fun r2 => ofOpt (asI r2.1) >>= fun k => ofOpt (gt r2.2 s) >>= fun l => ofOpt (setAt k d l) >>= fun l' => .ok (.nx, st r2.2 s (some l'))
theorem es_stL {o i : Expr} {fo fi : SE} {spos : Pos} (he : EvE X S W e fe) (ho : EvE X S W o fo) (hi : EvE X S W i fi)
    (ha : ∀ v, assign (.Subscript o i spos) X.env v = (do
      let ov ← holding [v] (eval o X.env)
      let iv ← holding [v, ov] (eval i X.env)
      standAt spos
      holding [v, ov, iv] (setItem ov iv v)
      release [v, ov, iv] []) := by intro _; rfl)
    (hs : swapsWithSole [.Subscript o i spos] e pos.line X.env = pure false := by rfl) (hw : swappedStores [.Subscript o i spos] e X.env = pure none := by rfl)
    (h1 : (assignEach [.Subscript o i spos] X.env).map (·.2) = [assign (.Subscript o i spos) X.env] := by rfl) :
    EvS X S W (.Assign [.Subscript o i spos] e pos) (sStL fe fo fi) := by
  obtain ⟨te, pe, qe⟩ := he
  obtain ⟨to, po, qo⟩ := ho
  obtain ⟨ti, pi, qi⟩ := hi
  refine ⟨_, ps_asg pe (pg_sub po pi set_list ha) hs hw h1, fun C σ H ρ E Er w => ?_⟩
  refine qe C σ H ρ _ Er ((Wp.bind w).mono (fun _ _ h => h) fun r0 _ w0 v0 H0 E0 A0 R0 => ?_)
  obtain ⟨d, e0, w1⟩ := opt_wp w0
  refine qo C σ H0 r0.2 _ E0 ((Wp.bind w1).mono (fun _ _ h => h) fun r1 _ w2 v1 H1 E1 A1 R1 => ?_)
  obtain ⟨s, e1, w3⟩ := opt_wp w2
  rw [plcOf_eq e1] at R1
  obtain ⟨hs0, hs1⟩ := R1
  refine qi C σ H1 r1.2 _ E1 ((Wp.bind w3).mono (fun _ _ h => h) fun r2 _ w4 v2 H2 E2 A2 R2 => ?_)
  obtain ⟨k, e2, w5⟩ := opt_wp w4
  obtain ⟨l, e3, w6⟩ := opt_wp w5
  obtain ⟨l', e4, w7⟩ := opt_wp w6
  have rp : Rep X.K S.T (C.O S σ r2.2) H2 v0 d := (R0.val e0).adv (A1.trans A2).ra
  unfold setAt at e4
  split at e4
  · rename_i ds
    obtain ⟨j, hj, rfl⟩ := map_some' e4
    obtain ⟨ad, e8, ow2, _⟩ := E2.own s _ hs0 e3
    rw [hs1] at e8
    obtain rfl : v1 = .ref ad := by simpa using e8
    obtain ⟨vs, g1, g2⟩ := ow2
    refine ⟨ad, vs, k, j, rfl, R2.int e2, g1, by rw [g2.length]; exact hj, ?_⟩
    have oa : C.O S σ r2.2 ad := .inr ⟨s, hs0, some_ne e3, hs1⟩
    have ra : RA (C.O S σ r2.2) H2 (C.O S σ r2.2) (upd H2 ad (.lst (vs.set j v0))) := ⟨fun b u nb hb => by
      have ne : b ≠ ad := fun z => nb (z ▸ oa)
      rcases hb with hb | ⟨o, hb⟩
      · exact .inl (by rw [upd_ne ne]; exact hb)
      · exact .inr ⟨o, by rw [upd_ne ne]; exact hb⟩, fun b z => .inl z, fun b hb => by
        by_cases z : b = ad
        · subst z; rw [upd_same]; exact some_ne rfl
        · rw [upd_ne z]; exact hb⟩
    have E3 := E2.mut (u := .lst (vs.set j v0)) (d := .lst (ds.set j d)) hs0 e3 hs1 trivial ⟨vs.set j v0, upd_same, (g2.adv ra).set j (rp.adv ra)⟩
    exact w7 _ _ E3 (((A0.trans A1).trans A2).trans (adv_mut hs0 e3 hs1))
  · cases e4
end
end EV

namespace PySem
open Sem (wp)
open Builtin Builtin.Str
theorem ev_meets_enumB {v : Value} {o : Obj} {H : Heap → Prop} (B : Begins v o H) :
    Meets (Builtin.«enumerate.__new__» ⟨[.type "enumerate", v], []⟩) (fun _ R s => H s.heap ∧
      R (.ok (.ret (.ref (s.heap.push o).objs.size)))
        { s with heap := (s.heap.push o).push { cls := .type "enumerate", data := .fields #[.none, .bool false, .ref s.heap.objs.size, rawInt 0, .none, .none] } }) :=
  .of_wp fun prog w A R s h => by
    obtain ⟨hp, g, d, tk, os⟩ := s; obtain ⟨h1, h⟩ := h
    have hsub := sub_enumerate
    have q1 : ∀ {A' : Around} {E : Value → Shared → Prop} {Q : Value → Shared → Prop}, Q (.ref hp.objs.size) ⟨(hp.push o), g, d, tk, os⟩ → wpAny (model prog w) A' (pyIter v) Q E ⟨hp, g, d, tk, os⟩ :=
      fun q => B.iter prog w _ _ ⟨hp, g, d, tk, os⟩ _ (B.keeps _ _ h1 fun b o' e => e) q
    wp_walk
    refine wpAny_stack_any fun st => wpAny_pure ?_
    split
    · rename_i c _ _ _ _ _
      cases (c == Value.type "enumerate")
      · wp_walk using q1
        exact ⟨_, rfl, h⟩
      · wp_walk using q1
        exact ⟨_, rfl, h⟩
    · wp_walk using q1
      exact ⟨_, rfl, h⟩
section
variable {prog : Program} {w : World} {A : Around} {E : Value → Shared → Prop} {s : Shared}
theorem ev_enum_begins {v : Value} {o : Obj} {H : Heap → Prop} {Q : Value → Shared → Prop} (B : Begins v o H) (h1 : H s.heap)
    (h : ∀ h', IsEnum h' (s.heap.objs.size + 1) s.heap.objs.size 0 .none → h'.get? s.heap.objs.size = some o → h'.objs.size = s.heap.objs.size + 2 →
      (∀ b o, s.heap.get? b = some o → h'.get? b = some o) → Q (.ref (s.heap.objs.size + 1)) { s with heap := h' }) :
    wpAny (model prog w) A (call (.type "enumerate") [v]) Q E s := by
  refine callType_new F.called_enumerate (by decide) (F.typeCall_enumerate_1 _) (F.newCall_enumerate_1 _) (fun obj => F.args_object_init_2 obj _) F.entry_enumerate_new
    (ev_meets_enumB B) ⟨h1, ?_⟩
  have hz : (s.heap.push o).objs.size = s.heap.objs.size + 1 := Heap.size_push ..
  show _ ∧ _
  rw [hz]
  have he : IsEnum ((s.heap.push o).push { cls := .type "enumerate", data := .fields #[.none, .bool false, .ref s.heap.objs.size, rawInt 0, .none, .none] }) (s.heap.objs.size + 1) s.heap.objs.size 0 .none := by
    have := Heap.get?_push_size (s.heap.push o) (o := { cls := .type "enumerate", data := .fields #[.none, .bool false, .ref s.heap.objs.size, rawInt 0, .none, .none] }) rfl
    rw [hz] at this; exact this
  refine ⟨⟨_, he, rfl⟩, h _ he (Heap.get?_push_of_some _ (Heap.get?_push_size _ B.free)) (by rw [Heap.size_push, hz]) fun b o x => Heap.get?_push_of_some _ (Heap.get?_push_of_some _ x)⟩
end
end PySem
namespace EV
open PySem PySem.Spec L2 SX
open PyProof.Rows hiding St

/-! ### what zip and enumerate go over: a list, a tuple, a text -/
inductive Sk where
  | lst (a : Addr) | tup (a : Addr) | txt (z : Str)
def Sk.v : Sk → V
  | .lst a => .ref a
  | .tup a => .ref a
  | .txt z => .str z
def Sk.fp : Sk → List Addr
  | .lst a => [a]
  | .tup a => [a]
  | .txt _ => []
def Sk.at (K : PySem.W.Frag) (H : Hp) (vs : List V) : Sk → Prop
  | .lst a => SqL K H a vs
  | .tup a => SqT K H a vs
  | .txt z => vs = z.cps.toList.map fun c => .str ⟨#[c]⟩
def Sk.it (h : Heap) (it : Addr) (i : Nat) : Sk → Prop
  | .lst a => h.IsListIter it a i
  | .tup a => h.IsTupleIter it a i
  | .txt z => ∃ t, h.IsStrIter it (strIterType z) z t i
theorem Sk.itAt {k : Sk} {h h' : Heap} {it : Addr} {i : Nat} (x : k.it h it i) (e : ∀ o, h.get? it = some o → h'.get? it = some o) : k.it h' it i := by
  cases k with
  | lst a => exact Heap.IsListIter.at x e
  | tup a => exact Heap.IsTupleIter.at x e
  | txt z =>
    obtain ⟨t, o, ho, hc, hd⟩ := x
    exact ⟨t, o, e o ho, hc, hd⟩
theorem Sk.itObj {k : Sk} {h : Heap} {it : Addr} {i : Nat} (x : k.it h it i) : ∃ o, h.get? it = some o ∧ ∀ v, o.data ≠ .cell v := by
  cases k with
  | lst a => obtain ⟨o, ho, hc, hd⟩ := x; exact ⟨o, ho, fun v q => by rw [hd] at q; cases q⟩
  | tup a => obtain ⟨o, ho, hc, hd⟩ := x; exact ⟨o, ho, fun v q => by rw [hd] at q; cases q⟩
  | txt z => obtain ⟨t, o, ho, hc, hd⟩ := x; exact ⟨o, ho, fun v q => by rw [hd] at q; cases q⟩
section
variable {X : Cx} {pins : List (Addr × Obj)} {σ : L2.St} {H : Hp} {s : Shared}
theorem Sk.uniq {k : Sk} {vs ws : List V} (I : Inv X pins σ H s) (h1 : k.at X.K H vs) (h2 : k.at X.K H ws) : vs = ws := by
  cases k with
  | lst a => exact I.list_inj h1 h2
  | tup a => exact I.tuple_inj h1 h2
  | txt z => exact (show vs = _ from h1).trans (show ws = _ from h2).symm
theorem Sk.draws {k : Sk} {A : Around} {it : Addr} {i : Nat} {vs : List V} (I : Inv X pins σ H s) (hh : A.handled = none) (ha : k.at X.K H vs) (hi : k.it s.heap it i) (hne : it ∉ k.fp) :
    ∃ (n : Nat) (P : Nat → Value → Prop) (St : Nat → Heap → Prop), n = vs.length ∧ Draws X.prog X.w A it (it :: k.fp) n P St ∧ St i s.heap ∧ (∀ j v, P j v → ∃ x, vs[j]? = some x ∧ L2.RelV x v) ∧ ∀ j h, St j h → k.it h it j := by
  cases k with
  | lst a =>
    obtain ⟨its, rv, pl, _⟩ := I.list ha
    have nab : a ≠ it := fun e => hne (by rw [e]; exact List.mem_singleton.mpr rfl)
    refine ⟨_, _, _, by rw [rv.length]; exact List.size_toArray, Draws.list hh it a nab its.toArray, ⟨hi, pl.isList⟩, fun j v h => vals_at rv (by rw [← List.getElem?_toArray]; exact h), fun j h st => st.1⟩
  | tup a =>
    obtain ⟨its, rv, pl, _⟩ := I.tuple ha
    have nab : a ≠ it := fun e => hne (by rw [e]; exact List.mem_singleton.mpr rfl)
    have hl' : s.heap.IsTuple a its.toArray := by
      obtain ⟨o, ho, hcls, n, hd⟩ := pl
      exact ⟨o, ho, hcls, n, hd⟩
    refine ⟨_, _, _, by rw [rv.length]; exact List.size_toArray, Draws.tuple hh it a nab its.toArray, ⟨hi, hl'⟩, fun j v h => vals_at rv (by rw [← List.getElem?_toArray]; exact h), fun j h st => st.1⟩
  | txt z =>
    obtain ⟨t, hi⟩ := hi
    obtain rfl : vs = _ := ha
    refine ⟨_, _, _, by rw [List.length_map, Array.length_toList], Draws.text hh it z t, hi, fun j v h => ?_, fun j h st => ⟨t, st⟩⟩
    obtain ⟨c, u, h1, rfl⟩ := h
    refine ⟨.str ⟨#[c]⟩, ?_, ⟨u, rfl⟩⟩
    rw [List.getElem?_map, Array.getElem?_toList, h1]
    rfl
/-- it begins -/
theorem Sk.begins {k : Sk} {vs : List V} {u : Value} (I : Inv X pins σ H s) (ha : k.at X.K H vs) (r : L2.RelV k.v u) :
    ∃ (o : Obj) (Hh : Heap → Prop), Begins u o Hh ∧ Hh s.heap ∧ (∀ (h : Heap) (it : Addr), h.get? it = some o → k.it h it 0) ∧ ∀ b, b ∈ k.fp → b < s.heap.objs.size := by
  cases k with
  | lst a =>
    cases r
    obtain ⟨its, rv, pl, _⟩ := I.list ha
    refine ⟨_, _, begins_list a its.toArray, pl.isList, fun h it e => ⟨_, e, rfl, rfl⟩, fun b hb => ?_⟩
    obtain rfl : b = a := List.mem_singleton.mp hb
    exact pl.lt
  | tup a =>
    cases r
    obtain ⟨its, rv, pl, _⟩ := I.tuple ha
    have hl' : s.heap.IsTuple a its.toArray := by
      obtain ⟨o, ho, hcls, n, hd⟩ := pl
      exact ⟨o, ho, hcls, n, hd⟩
    refine ⟨_, _, begins_tuple a its.toArray, hl', fun h it e => ⟨_, e, rfl, rfl⟩, fun b hb => ?_⟩
    obtain rfl : b = a := List.mem_singleton.mp hb
    obtain ⟨o, ho, _⟩ := hl'
    exact Heap.lt_size ho
  | txt z =>
    obtain ⟨t, rfl⟩ := r
    exact ⟨_, _, begins_text z t, trivial, fun h it e => ⟨t, _, e, rfl, rfl⟩, fun b hb => nomatch hb⟩
end
/-! ### zip -/
def ItzS (K : PySem.W.Frag) (a b : Sk) : It :=
  ⟨fun i H => ∃ (xs ys : List V), a.at K H xs ∧ b.at K H ys ∧ i < xs.length ∧ i < ys.length,
    fun i H v H' => ∃ T x y, v = .ref T ∧ H T = none ∧ H' = upd H T (.tup [x, y]) ∧ (∀ xs, a.at K H xs → xs[i]? = some x) ∧ ∀ ys, b.at K H ys → ys[i]? = some y,
    fun i H => ∃ xs ys : List V, a.at K H xs ∧ b.at K H ys ∧ i ≤ xs.length ∧ i ≤ ys.length ∧ (i = xs.length ∨ i = ys.length)⟩
theorem turn_zipS {P : Program} {w : World} {K : PySem.W.Frag} {elts : List Expr} {kk : Nat} {tpos : Pos} {a b : Sk} {z TI TO i1 i2 : Addr} (D : ZipSep2 z TI TO i1 i2 (i1 :: a.fp) (i2 :: b.fp)) (n1 : i1 ∉ a.fp) (n2 : i2 ∉ b.fp) :
    Turn P w K (.Tuple elts kk tpos) (ItzS K a b) [z, TI, TO, i1, i2] z (fun i h => IsZip h z TI TO .none ∧ IsTupOf2 h TI (.ref i1) (.ref i2) ∧ (∃ x y, IsTupOf2 h TO x y) ∧ a.it h i1 i ∧ b.it h i2 i) where
  mem := by simp
  obj := fun i h st c hc => by
    obtain ⟨hz, hTI, ⟨x, y, hTO⟩, h1, h2⟩ := st
    have e' : c = z ∨ c = TI ∨ c = TO ∨ c = i1 ∨ c = i2 := by simpa using hc
    rcases e' with q | q | q | q | q
    · rw [q]; exact ⟨_, hz, fun v q => nomatch q⟩
    · rw [q]; exact ⟨_, hTI, fun v q => nomatch q⟩
    · rw [q]; exact ⟨_, hTO, fun v q => nomatch q⟩
    · rw [q]; exact Sk.itObj h1
    · rw [q]; exact Sk.itObj h2
  keep := fun i h h' st k => by
    obtain ⟨hz, hTI, ⟨x, y, hTO⟩, h1, h2⟩ := st
    exact ⟨k z (by simp) _ hz, k TI (by simp) _ hTI, ⟨x, y, k TO (by simp) _ hTO⟩, Sk.itAt h1 fun o q => k i1 (by simp) o q, Sk.itAt h2 fun o q => k i2 (by simp) o q⟩
  item := by
    intro X hP hw hK hc i pins s σ H E I hf st hg
    subst hP hw hK
    obtain ⟨hz, hTI, ⟨x0, y0, hTO⟩, h1, h2⟩ := st
    obtain ⟨xs, ys, hqx, hqy, hx, hy⟩ := hg
    obtain ⟨m1, P1, St1, em1, D1, st1, r1, c1⟩ := Sk.draws (A := X.A.in1) I (I.ok.hd hc) hqx h1 n1
    obtain ⟨m2, P2, St2, em2, D2, st2, r2, c2⟩ := Sk.draws (A := X.A.in1) I (I.ok.hd hc) hqy h2 n2
    have hzl : z < s.heap.objs.size := Heap.lt_size hz
    refine wpAny_pyNext_zipD2_item D D1 D2 hz hTI hTO st1 st2 (by rw [em1]; exact hx) (by rw [em2]; exact hy) fun u u2 h' tk y1 y2 z' TO' d1 d2 hT hsz hk => ?_
    obtain ⟨x, hx', ru⟩ := r1 i u y1
    obtain ⟨y, hy', ru2⟩ := r2 i u2 y2
    refine ⟨_, rfl, wpAny_letOwnedTupleGo_zip (s := { s with heap := h', toks := tk }) z' fun h'' z'' sb => ?_⟩
    have hT2 : h''.get? s.heap.objs.size = some { cls := .type "tuple", data := .seq #[u, u2] } := (sb.2 _ (Nat.ne_of_gt hzl)).trans hT
    have new : ObjOk X.prog X.w (upd H s.heap.objs.size (.tup [x, y])) h'' s.heap.objs.size (.tup [x, y]) :=
      ⟨by show 2 ≤ sizeLine; decide, [u, u2], .cons ru (.cons ru2 .nil), ⟨_, hT2, rfl, _, rfl⟩⟩
    have I1 : Inv X pins σ (upd H s.heap.objs.size (.tup [x, y])) { s with heap := h'', toks := tk } :=
      I.turnedNew (t' := tk) (ch := [z, TI, TO, i1, i2]) (fun c o hb q => (sb.2 c (fun q' => hb (by simp [q']))).trans (hk c o (fun q' => hb (by simp [q'])) (fun q' => hb (by simp [q'])) (fun q' => hb (by simp [q'])) (fun q' => hb (by simp [q'])) q)) hf (Nat.le_refl _) new
    refine ⟨.ref s.heap.objs.size, _, I1, rfl, ⟨_, x, y, rfl, I.hok.fresh (Nat.le_refl _), rfl, fun l hl => by rw [Sk.uniq I hl hqx]; exact hx', fun l hl => by rw [Sk.uniq I hl hqy]; exact hy'⟩, ⟨z'', ?_, ⟨u, u2, ?_⟩, ?_, ?_⟩, fun c hcm => ?_⟩
    · exact (sb.2 _ D.TIz).trans (hk _ _ D.TIz D.TITO D.TIi1 D.TIi2 hTI)
    · exact (sb.2 _ D.TOz).trans TO'
    · exact Sk.itAt (c1 _ _ d1) fun o q => (sb.2 _ D.zi1.symm).trans q
    · exact Sk.itAt (c2 _ _ d2) fun o q => (sb.2 _ D.zi2.symm).trans q
    · have hlt : c < s.heap.objs.size := by
        have e' : c = z ∨ c = TI ∨ c = TO ∨ c = i1 ∨ c = i2 := by simpa using hcm
        rcases e' with q | q | q | q | q
        · rw [q]; exact hzl
        · rw [q]; exact Heap.lt_size hTI
        · rw [q]; exact Heap.lt_size hTO
        · rw [q]; obtain ⟨_, e1, _⟩ := Sk.itObj h1; exact Heap.lt_size e1
        · rw [q]; obtain ⟨_, e2, _⟩ := Sk.itObj h2; exact Heap.lt_size e2
      rw [upd_ne (Nat.ne_of_lt hlt)]
      exact (hf c hcm).1
  done := by
    intro X hP hw hK hc i pins s σ H E I hf st hg
    subst hP hw hK
    obtain ⟨hz, hTI, ⟨x0, y0, hTO⟩, h1, h2⟩ := st
    obtain ⟨xs, ys, hqx, hqy, l1, l2, hend⟩ := hg
    obtain ⟨m1, P1, St1, em1, D1, st1, r1, c1⟩ := Sk.draws (A := X.A.in1) I (I.ok.hd hc) hqx h1 n1
    obtain ⟨m2, P2, St2, em2, D2, st2, r2, c2⟩ := Sk.draws (A := X.A.in1) I (I.ok.hd hc) hqy h2 n2
    refine wpAny_pyNext_zipD2_end D D1 D2 hz hTI hTO st1 st2 (by rw [em1]; exact l1) (by rw [em2]; exact l2) (by rw [em1, em2]; exact hend) fun h' tk hk => ⟨rfl, I.turnedL (t' := tk) (ch := [z, TI, TO, i1, i2]) (fun c o hb q =>
      hk c o (fun q' => hb (by simp [q'])) (fun q' => hb (by simp [q'])) (fun q' => hb (by simp [q'])) (fun q' => hb (by simp [q'])) q) hf⟩
  self := fun A i s Q E st h => wpAny_pyIter_zip st.1 h
def iZipS (K : PySem.W.Frag) (ta : TA) : TI := fun σ H R => ta σ H fun vs H1 => ∃ (a b : Sk) (xs ys : List V), vs = [a.v, b.v] ∧ a.at K H1 xs ∧ b.at K H1 ys ∧ R (ItzS K a b) H1
theorem pi_zipS {X : Cx} {e e2 : Expr} {ta : TA} {p pos tpos : Pos} {elts : List Expr} {kk : Nat} (hg : Gl X "zip") (hm : X.mg "zip" = none) (ha : PA X [e, e2] ta)
    (hs : starEach [e, e2] X.env = (false, eval e X.env) :: starEach [e2] X.env := by rfl) (hpl : (backTo pos (starEach [e2] X.env)).any (·.1) = false := by rfl) :
    PI X (.Tuple elts kk tpos) (.Call (.Name "zip" p) [e, e2] [] pos) (iZipS X.K ta) := by
  refine ⟨fun pins s σ H R I h => ?_⟩
  refine Call_ (ld_blt I hg hm PyProof.Rows.boot_zip (PyProof.Rows.callWith_type1 (thn (ha.run pos pins s σ H _ I h) fun us s1 ⟨vs, H1, I1, r1, q1⟩ => ?_) hs hpl))
  obtain ⟨a, b, xs, ys, ex, hqx, hqy, q⟩ := q1
  subst ex
  obtain ⟨u, u2, rfl, ru, ru2⟩ := vals2 r1
  obtain ⟨o1, H1', B1, hh1, at1, f1⟩ := Sk.begins I1 hqx ru
  obtain ⟨o2, H2', B2, hh2, at2, f2⟩ := Sk.begins I1 hqy ru2
  have fresh5 : ∀ c, c ∈ [s1.heap.objs.size + 4, s1.heap.objs.size + 2, s1.heap.objs.size + 3, s1.heap.objs.size, s1.heap.objs.size + 1] → FpOk X pins H1 c := fun c hcm => by
    have e' : c = s1.heap.objs.size + 4 ∨ c = s1.heap.objs.size + 2 ∨ c = s1.heap.objs.size + 3 ∨ c = s1.heap.objs.size ∨ c = s1.heap.objs.size + 1 := by simpa using hcm
    have hle : s1.heap.objs.size ≤ c := by
      rcases e' with z | z | z | z | z
      · rw [z]; exact Nat.le_add_right _ _
      · rw [z]; exact Nat.le_add_right _ _
      · rw [z]; exact Nat.le_add_right _ _
      · rw [z]; exact Nat.le_refl _
      · rw [z]; exact Nat.le_add_right _ _
    exact I1.fpOk hle (I1.hok.fresh hle)
  refine zip_begins2 B1 B2 hh1 hh2 fun h' hz hTI hTO g1 g2 hsz hk => wpAny_pyIter_zip hz ?_
  have I2 : Inv X pins σ H1 { s1 with heap := h' } := I1.kept (t' := s1.toks) hk
  refine ⟨s1.heap.objs.size + 4, [s1.heap.objs.size + 4, s1.heap.objs.size + 2, s1.heap.objs.size + 3, s1.heap.objs.size, s1.heap.objs.size + 1], _, _, H1, rfl, I2, turn_zipS (zip_sep2 f1 f2) (fun hm => ?_) (fun hm => ?_), ⟨hz, hTI, ⟨_, _, hTO⟩, at1 _ _ g1, at2 _ _ g2⟩, fresh5, q⟩
  · exact Nat.lt_irrefl _ (f1 _ hm)
  · exact Nat.not_succ_lt_self (f2 _ hm)

/-! ### enumerate -/
def IteS (K : PySem.W.Frag) (a : Sk) : It :=
  ⟨fun i H => ∃ (xs : List V), a.at K H xs ∧ i < xs.length, fun i H v H' => ∃ T x, v = .ref T ∧ H T = none ∧ H' = upd H T (.tup [.int (i : Nat), x]) ∧ ∀ xs, a.at K H xs → xs[i]? = some x, fun i H => ∃ xs : List V, a.at K H xs ∧ i = xs.length⟩
theorem turn_enumS {P : Program} {w : World} {K : PySem.W.Frag} {elts : List Expr} {kk : Nat} {tpos : Pos} (a : Sk) (e it : Addr) (hne : e ≠ it) (hef : e ∉ a.fp) (hif : it ∉ a.fp) :
    Turn P w K (.Tuple elts kk tpos) (IteS K a) [e, it] e (fun i h => (∃ old, IsEnum h e it ((i : Nat) : Int) old) ∧ a.it h it i) where
  mem := by simp
  obj := fun i h st b hb => by
    obtain ⟨⟨old, he⟩, h1⟩ := st
    have e' : b = e ∨ b = it := by simpa using hb
    rcases e' with z | z
    · rw [z]; exact ⟨_, he, fun v q => nomatch q⟩
    · rw [z]; exact Sk.itObj h1
  keep := fun i h h' st k => let ⟨⟨old, he⟩, hi⟩ := st; ⟨⟨old, k e (by simp) _ he⟩, Sk.itAt hi fun o q => k it (by simp) o q⟩
  item := by
    intro X hP hw hK hc i pins s σ H E I hf st hg
    subst hP hw hK
    obtain ⟨⟨old, he⟩, hit⟩ := st
    obtain ⟨xs, hq, hx⟩ := hg
    obtain ⟨m1, P1, St1, em1, D1, st1, r1, c1⟩ := Sk.draws (A := X.A.in1) I (I.ok.hd hc) hq hit hif
    have hel : e < s.heap.objs.size := Heap.lt_size he
    have hil : it < s.heap.objs.size := by obtain ⟨_, q, _⟩ := Sk.itObj hit; exact Heap.lt_size q
    refine wpAny_pyNext_enum_itemD D1 he st1 (by rw [em1]; exact hx) hne (fun hm => (List.mem_cons.mp hm).elim hne hef) fun u h' tk y1 ho hit' hT hsz hk => ?_
    obtain ⟨x, hx', ru⟩ := r1 i u y1
    refine ⟨_, rfl, wpAny_letOwnedTupleGo_enum (s := { s with heap := h', toks := tk + 1 }) ho fun h'' he' sb => ?_⟩
    have hT2 : h''.get? s.heap.objs.size = some { cls := .type "tuple", data := .seq #[.int i tk, u] } := (sb.2 _ (Nat.ne_of_gt hel)).trans hT
    have new : ObjOk X.prog X.w (upd H s.heap.objs.size (.tup [.int (i : Nat), x])) h'' s.heap.objs.size (.tup [.int (i : Nat), x]) :=
      ⟨by show 2 ≤ sizeLine; decide, [.int i tk, u], .cons ⟨_, rfl⟩ (.cons ru .nil), ⟨_, hT2, rfl, _, rfl⟩⟩
    have I1 : Inv X pins σ (upd H s.heap.objs.size (.tup [.int (i : Nat), x])) { s with heap := h'', toks := tk + 1 } :=
      I.turnedNew (ch := [e, it]) (fun b ob hb q => (sb.2 b (fun z => hb (by simp [z]))).trans (hk b ob (fun z => hb (by simp [z])) (fun z => hb (by simp [z])) q)) hf (Nat.le_refl _) new
    refine ⟨.ref s.heap.objs.size, _, I1, rfl, ⟨_, x, rfl, I.hok.fresh (Nat.le_refl _), rfl, fun ys hy => by rw [Sk.uniq I hy hq]; exact hx'⟩, ⟨⟨u, ?_⟩, Sk.itAt (c1 _ _ hit') fun o q => (sb.2 it (Ne.symm hne)).trans q⟩, fun b hb => ?_⟩
    · have e1 : ((i + 1 : Nat) : Int) = (i : Int) + 1 := by omega
      rw [e1]; exact he'
    · have hb' : b < s.heap.objs.size := by
        have e' : b = e ∨ b = it := by simpa using hb
        rcases e' with z | z
        · rw [z]; exact hel
        · rw [z]; exact hil
      rw [upd_ne (Nat.ne_of_lt hb')]
      exact (hf b hb).1
  done := by
    intro X hP hw hK hc i pins s σ H E I hf st hg
    subst hP hw hK
    obtain ⟨⟨old, he⟩, hit⟩ := st
    obtain ⟨xs, hq, rfl⟩ := hg
    obtain ⟨m1, P1, St1, em1, D1, st1, r1, c1⟩ := Sk.draws (A := X.A.in1) I (I.ok.hd hc) hq hit hif
    rw [← em1] at st1 he
    obtain ⟨f0, f1, f2, f3, f4, f5⟩ := hf it (by simp)
    exact wpAny_pyNext_enum_endD D1 he st1 fun h' eb => ⟨rfl, I.turned (t' := s.toks) (fun b o hb q => eb b o hb q) f0 f1 f3 f4 f5⟩
  self := fun A i s Q E st h => let ⟨⟨_, he⟩, _⟩ := st; wpAny_pyIter_enum he h
def iEnumS (K : PySem.W.Frag) (ta : TA) : TI := fun σ H R => ta σ H fun vs H1 => ∃ (a : Sk) (xs : List V), vs = [a.v] ∧ a.at K H1 xs ∧ R (IteS K a) H1
theorem pi_enumS {X : Cx} {e : Expr} {ta : TA} {p pos tpos : Pos} {elts : List Expr} {kk : Nat} (hg : Gl X "enumerate") (hm : X.mg "enumerate" = none) (ha : PA X [e] ta) (hs : starEach [e] X.env = [(false, eval e X.env)] := by rfl) :
    PI X (.Tuple elts kk tpos) (.Call (.Name "enumerate" p) [e] [] pos) (iEnumS X.K ta) := by
  refine ⟨fun pins s σ H R I h => ?_⟩
  refine Call_ (ld_blt I hg hm boot_enumerate (PyProof.Rows.callWith_type1 (thn (ha.run pos pins s σ H _ I h) fun us s1 ⟨vs, H1, I1, r1, q1⟩ => ?_) hs rfl))
  obtain ⟨a, xs, ex, hq, q⟩ := q1
  subst ex
  obtain ⟨u, rfl, ru⟩ := vals1 r1
  obtain ⟨o1, H1', B1, hh1, at1, f1⟩ := Sk.begins I1 hq ru
  refine ev_enum_begins B1 hh1 fun h' he g1 hsz hk => wpAny_pyIter_enum he ?_
  have I2 : Inv X pins σ H1 { s1 with heap := h' } := I1.kept (t' := s1.toks) hk
  refine ⟨s1.heap.objs.size + 1, [s1.heap.objs.size + 1, s1.heap.objs.size], _, _, H1, rfl, I2, turn_enumS a (s1.heap.objs.size + 1) s1.heap.objs.size (Nat.succ_ne_self _) (fun hm => ?_) (fun hm => ?_), ⟨⟨.none, he⟩, at1 _ _ g1⟩, fun b hb => ?_, q⟩
  · exact Nat.not_succ_lt_self (f1 _ hm)
  · exact Nat.lt_irrefl _ (f1 _ hm)
  · have e' : b = s1.heap.objs.size + 1 ∨ b = s1.heap.objs.size := by simpa using hb
    have hle : s1.heap.objs.size ≤ b := by
      rcases e' with z | z
      · rw [z]; exact Nat.le_add_right _ _
      · rw [z]; exact Nat.le_refl _
    exact I1.fpOk hle (I1.hok.fresh hle)
end EV

namespace EV
open PySem PySem.Spec L2 SX
open PyProof.Rows hiding St
def seqTD : D → Option (List D)
  | .lst xs => some xs
  | .tup xs => some xs
  | .str s => some (signs s)
  | _ => none
/-- what a value that is gone over gives, at any later moment -/
theorem sk_of {K : PySem.W.Frag} {T : Nat → Option Addr} {O : Addr → Prop} {H : Hp} {v : V} {d : D} {ds : List D} (h : Rep K T O H v d) (e : seqTD d = some ds) :
    ∃ (k : Sk) (vs : List V), v = k.v ∧ vs.length = ds.length ∧ ∀ O1 H1, RA O H O1 H1 → k.at K H1 vs ∧ ∀ (j : Nat) (d : D), ds[j]? = some d → ∃ x, vs[j]? = some x ∧ Rep K T O1 H1 x d := by
  cases d <;> first | (cases e; done) | skip
  · rename_i s
    cases e
    cases h with
    | str _ hs =>
      refine ⟨.txt (SX.S s), (SX.S s).cps.toList.map fun c => .str ⟨#[c]⟩, rfl, by rw [List.length_map, S_toList]; simp [signs], fun O1 H1 ra => ⟨rfl, fun j d hd => ?_⟩⟩
      rw [S_toList, List.getElem?_map]
      unfold signs at hd
      rw [List.getElem?_map] at hd
      cases q : s[j]? with
      | none => rw [q] at hd; cases hd
      | some c =>
        rw [q] at hd
        have hd : some (D.str [c]) = some d := hd
        cases hd
        refine ⟨.str ⟨#[c]⟩, rfl, ?_⟩
        exact Rep.str [c] fun z hz => by
          rw [List.mem_singleton] at hz
          rw [hz]
          exact hs c (List.mem_of_getElem? q)
  · rename_i xs
    cases e
    cases h with
    | tup h1 h2 => exact ⟨.tup _, _, rfl, h2.length, fun O1 H1 ra => ⟨(h1.adv ra).sq, fun j d hd => (h2.adv ra).get hd⟩⟩
  · rename_i xs
    cases e
    cases h with
    | lst h0 h1 h2 => exact ⟨.lst _, _, rfl, h2.length, fun O1 H1 ra => ⟨.inl (rd_adv ra h0 h1).2, fun j d hd => (h2.adv ra).get hd⟩⟩
def zipL : List D → List D → List D
  | a :: as, b :: bs => .tup [a, b] :: zipL as bs
  | _, _ => []
theorem zipL_length : ∀ as bs : List D, (zipL as bs).length = min as.length bs.length
  | a :: as, b :: bs => by
    show (zipL as bs).length + 1 = _
    rw [zipL_length as bs, List.length_cons, List.length_cons]
    omega
  | [], bs => by simp [zipL]
  | a :: as, [] => by simp [zipL]
theorem zipL_get : ∀ {as bs : List D} {i : Nat} {d : D}, (zipL as bs)[i]? = some d → ∃ a b, as[i]? = some a ∧ bs[i]? = some b ∧ d = .tup [a, b]
  | a :: as, b :: bs, 0, d, h => by
    have h' : some (D.tup [a, b]) = some d := h
    cases h'
    exact ⟨a, b, rfl, rfl, rfl⟩
  | a :: as, b :: bs, i + 1, d, h => by
    obtain ⟨x, y, h1, h2, h3⟩ := zipL_get (as := as) (bs := bs) (i := i) (by simpa [zipL] using h)
    exact ⟨x, y, by simpa using h1, by simpa using h2, h3⟩
  | [], bs, i, d, h => by simp [zipL] at h
  | a :: as, [], i, d, h => by simp [zipL] at h
def enumL : Nat → List D → List D
  | _, [] => []
  | k, a :: as => .tup [.int k, a] :: enumL (k + 1) as
theorem enumL_length : ∀ (k : Nat) (as : List D), (enumL k as).length = as.length
  | _, [] => rfl
  | k, a :: as => congrArg (· + 1) (enumL_length (k + 1) as)
theorem enumL_get : ∀ {k : Nat} {as : List D} {i : Nat} {d : D}, (enumL k as)[i]? = some d → ∃ a, as[i]? = some a ∧ d = .tup [.int (k + i : Nat), a]
  | k, a :: as, 0, d, h => by
    have h' : some (D.tup [.int k, a]) = some d := h
    cases h'
    exact ⟨a, rfl, rfl⟩
  | k, a :: as, i + 1, d, h => by
    obtain ⟨x, h1, h2⟩ := enumL_get (k := k + 1) (as := as) (i := i) (by simpa [enumL] using h)
    refine ⟨x, by simpa using h1, ?_⟩
    rw [h2, show k + 1 + i = k + (i + 1) by omega]
  | k, [], i, d, h => by simp [enumL] at h
section
variable {X : Cx} {S : ES} {W : WX} {pos p tpos : Pos} {elts : List Expr} {kk : Nat}
theorem itd_zip {m : MO} {H : Hp} {a b : Sk} {xs ys : List V} {as bs : List D} (l1 : xs.length = as.length) (l2 : ys.length = bs.length)
    (h1 : ∀ O1 H1, RA m.O H O1 H1 → a.at X.K H1 xs ∧ ∀ (j : Nat) (d : D), as[j]? = some d → ∃ x, xs[j]? = some x ∧ Rep X.K S.T O1 H1 x d)
    (h2 : ∀ O1 H1, RA m.O H O1 H1 → b.at X.K H1 ys ∧ ∀ (j : Nat) (d : D), bs[j]? = some d → ∃ x, ys[j]? = some x ∧ Rep X.K S.T O1 H1 x d) :
    ItD X.K S (ItzS X.K a b) (zipL as bs) m H where
  go := fun m1 H1 i ra hi => by
    rw [zipL_length] at hi
    exact ⟨xs, ys, (h1 _ _ ra).1, (h2 _ _ ra).1, by omega, by omega⟩
  stop := fun m1 H1 ra => by
    rw [zipL_length]
    exact ⟨xs, ys, (h1 _ _ ra).1, (h2 _ _ ra).1, by omega, by omega, by omega⟩
  yld := fun C S' σ H1 ρ i x H2 d hS E ra y hd => by
    obtain ⟨T, u, w, rfl, hT, rfl, f1, f2⟩ := y
    obtain ⟨da, db, g1, g2, rfl⟩ := zipL_get hd
    obtain ⟨a1, a2⟩ := h1 _ _ ra
    obtain ⟨b1, b2⟩ := h2 _ _ ra
    obtain ⟨u', e1, r1⟩ := a2 i da g1
    obtain ⟨w', e2, r2⟩ := b2 i db g2
    have e3 := f1 xs a1
    have e4 := f2 ys b1
    rw [e1] at e3
    rw [e2] at e4
    cases e3
    cases e4
    have x := Ex.new (o := .tup [u, w]) hT
    rw [← hS] at r1 r2
    exact ⟨x, .tup (.inl ⟨OH.fresh E.omut hT, .inl upd_same⟩) (.cons (r1.adv x.ra) (.cons (r2.adv x.ra) .nil))⟩
theorem itd_enum {m : MO} {H : Hp} {a : Sk} {xs : List V} {as : List D} (l1 : xs.length = as.length)
    (h1 : ∀ O1 H1, RA m.O H O1 H1 → a.at X.K H1 xs ∧ ∀ (j : Nat) (d : D), as[j]? = some d → ∃ x, xs[j]? = some x ∧ Rep X.K S.T O1 H1 x d) :
    ItD X.K S (IteS X.K a) (enumL 0 as) m H where
  go := fun m1 H1 i ra hi => by
    rw [enumL_length] at hi
    exact ⟨xs, (h1 _ _ ra).1, by omega⟩
  stop := fun m1 H1 ra => by
    rw [enumL_length]
    exact ⟨xs, (h1 _ _ ra).1, l1.symm⟩
  yld := fun C S' σ H1 ρ i x H2 d hS E ra y hd => by
    obtain ⟨T, u, rfl, hT, rfl, f1⟩ := y
    obtain ⟨da, g1, rfl⟩ := enumL_get hd
    obtain ⟨a1, a2⟩ := h1 _ _ ra
    obtain ⟨u', e1, r1⟩ := a2 i da g1
    have e3 := f1 xs a1
    rw [e1] at e3
    cases e3
    have x := Ex.new (o := .tup [.int (i : Nat), u]) hT
    rw [← hS] at r1
    rw [Nat.zero_add]
    exact ⟨x, .tup (.inl ⟨OH.fresh E.omut hT, .inl upd_same⟩) (.cons (.int _) (.cons (r1.adv x.ra) .nil))⟩
def zip2 : List D → Option (List D)
  | [a, b] => (seqTD a).bind fun as => (seqTD b).map fun bs => zipL as bs
  | _ => none
def enum1 : List D → Option (List D)
  | [a] => (seqTD a).map fun as => enumL 0 as
  | _ => none
theorem ei_zip {a b : Expr} {fs} (hg : Gl X "zip") (hm : X.mg "zip" = none) (ha : EvA X S W [a, b] fs) (hs : starEach [a, b] X.env = (false, eval a X.env) :: starEach [b] X.env := by rfl) (hpl : (backTo pos (starEach [b] X.env)).any (·.1) = false := by rfl) :
    EvI X S W (.Tuple elts kk tpos) (.Call (.Name "zip" p) [a, b] [] pos) (iRng zip2 fs) := by
  obtain ⟨t, pt, q⟩ := ha
  refine ⟨_, pi_zipS hg hm pt hs hpl, fun C σ H ρ R E w => ?_⟩
  refine q C σ H ρ _ E ((Wp.bind w).mono (fun _ _ h => h) fun r1 _ w1 vs H1 E1 A1 R1 => ?_)
  obtain ⟨ds, e1, w2⟩ := opt_wp w1
  obtain ⟨xs, e2, w3⟩ := opt_wp w2
  have rs := R1.reps e1
  unfold zip2 at e2
  split at e2
  · rename_i d1 d2
    cases q1 : seqTD d1 with
    | none => rw [q1] at e2; cases e2
    | some as =>
      rw [q1] at e2
      obtain ⟨bs, q2, rfl⟩ := map_some' (show (seqTD d2).map (fun bs => zipL as bs) = some xs from e2)
      cases rs with
      | cons ra rs' =>
        cases rs' with
        | cons rb rn =>
          cases rn
          obtain ⟨ka, va, rfl, la, ha⟩ := sk_of ra q1
          obtain ⟨kb, vb, rfl, lb, hb⟩ := sk_of rb q2
          exact ⟨ka, kb, va, vb, rfl, (ha _ _ (RA.refl _ _)).1, (hb _ _ (RA.refl _ _)).1, w3 _ H1 E1 A1 (itd_zip la lb ha hb)⟩
  · cases e2
theorem ei_enum {a : Expr} {fs} (hg : Gl X "enumerate") (hm : X.mg "enumerate" = none) (ha : EvA X S W [a] fs) (hs : starEach [a] X.env = [(false, eval a X.env)] := by rfl) :
    EvI X S W (.Tuple elts kk tpos) (.Call (.Name "enumerate" p) [a] [] pos) (iRng enum1 fs) := by
  obtain ⟨t, pt, q⟩ := ha
  refine ⟨_, pi_enumS hg hm pt hs, fun C σ H ρ R E w => ?_⟩
  refine q C σ H ρ _ E ((Wp.bind w).mono (fun _ _ h => h) fun r1 _ w1 vs H1 E1 A1 R1 => ?_)
  obtain ⟨ds, e1, w2⟩ := opt_wp w1
  obtain ⟨xs, e2, w3⟩ := opt_wp w2
  have rs := R1.reps e1
  unfold enum1 at e2
  split at e2
  · rename_i d1
    obtain ⟨as, q1, rfl⟩ := map_some' e2
    cases rs with
    | cons ra rs' =>
      cases rs'
      obtain ⟨ka, va, rfl, la, ha⟩ := sk_of ra q1
      exact ⟨ka, va, rfl, (ha _ _ (RA.refl _ _)).1, w3 _ H1 E1 A1 (itd_enum la ha)⟩
  · cases e2

/-! ### a name owns no more: what it holds will not change -/
theorem M_frz {C : EC} {σ : St} {ρ : Env} {i : Nat} {ow' : List Nat} (ho : ∀ j, j ∈ S.ow ↔ j = i ∨ j ∈ ow') {a : Addr} (h : EC.M { S with ow := ow' } σ ρ a) : EC.M S σ ρ a := by
  obtain ⟨j, h1, h2, h3⟩ := h
  exact ⟨j, (ho j).mpr (.inr h1), h2, h3⟩
theorem M_thaw {C : EC} {σ : St} {ρ : Env} {i : Nat} {ow' : List Nat} (ho : ∀ j, j ∈ S.ow ↔ j = i ∨ j ∈ ow') {a : Addr} (h : EC.M S σ (st ρ i none) a) : EC.M { S with ow := ow' } σ ρ a := by
  obtain ⟨j, h1, h2, h3⟩ := h
  by_cases e : j = i
  · subst e; rw [gt_st_none] at h2; exact absurd rfl h2
  · rw [gt_st_ne ρ i j _ e] at h2
    exact ⟨j, ((ho j).mp h1).resolve_left e, h2, h3⟩
def isLive (i : Nat) (ρ : Env) : Bool := (gt ρ i).isSome
/-- the rest is run with slot i shared -/
def bFrz (i : Nat) (f : SS) : SS := fun ρ => gd (isLive i ρ) >>= fun _ => f ρ >>= fun r => .ok (r.1, st r.2 i none)
theorem ER.frz {K : PySem.W.Frag} {C : EC} {σ : St} {H : Hp} {ρ : Env} {i : Nat} {ow' : List Nat} (E : ER K S C σ H ρ) (ho : ∀ j, j ∈ S.ow ↔ j = i ∨ j ∈ ow') (hn : i ∉ ow') (hf : i ∉ S.fx) (hl : gt ρ i ≠ none) : ER K { S with ow := ow' } C σ H ρ := by
  have sub : ∀ a, C.O { S with ow := ow' } σ ρ a → C.O S σ ρ a := fun a z => z.imp id (M_frz (C := C) ho)
  refine ⟨E.len, fun j d hj hd => ?_, fun j d hj hd => ?_, fun j k a hj hk => E.dis j k a ((ho j).mpr (.inr hj)) ((ho k).mpr (.inr hk)), E.fx, E.fr, E.dom, E.lks, E.o0⟩
  · by_cases e : j = i
    · subst e
      have ij : j ∈ S.ow := (ho j).mpr (.inl rfl)
      obtain ⟨a, h1, h2, h3, _⟩ := E.own j d ij hd
      refine ⟨_, h1, (h2.adv (sub_ra sub) rfl).rep fun z => ?_⟩
      rcases z with z | ⟨k, g1, g2, g3⟩
      · exact (h3 hf).2 z
      · have := E.dis k j a ((ho k).mpr (.inr g1)) ij g2 hl g3 h1
        subst this
        exact hn g1
    · obtain ⟨v, h1, h2⟩ := E.sh j d (fun z => ((ho j).mp z).elim e hj) hd
      exact ⟨v, h1, h2.adv (sub_ra sub)⟩
  · obtain ⟨a, h1, h2, h3⟩ := E.own j d ((ho j).mpr (.inr hj)) hd
    exact ⟨a, h1, h2.adv (sub_ra sub) rfl, h3⟩
theorem ER.thaw {K : PySem.W.Frag} {C : EC} {σ : St} {H : Hp} {ρ : Env} {i : Nat} {ow' : List Nat} (E : ER K { S with ow := ow' } C σ H ρ) (ho : ∀ j, j ∈ S.ow ↔ j = i ∨ j ∈ ow') : ER K S C σ H (st ρ i none) := by
  have sub : ∀ a, C.O S σ (st ρ i none) a → C.O { S with ow := ow' } σ ρ a := fun a z => z.imp id (M_thaw (C := C) ho)
  have ne : ∀ {j d}, gt (st ρ i none) j = some d → j ≠ i ∧ gt ρ j = some d := fun {j d} h => by
    by_cases e : j = i
    · subst e; rw [gt_st_none] at h; cases h
    · rw [gt_st_ne ρ i j _ e] at h; exact ⟨e, h⟩
  refine ⟨by rw [st_length]; exact E.len, fun j d hj hd => ?_, fun j d hj hd => ?_, fun j k a hj hk h1 h2 => ?_, E.fx, E.fr, E.dom, E.lks, E.o0⟩
  · obtain ⟨_, hd⟩ := ne hd
    obtain ⟨v, h1, h2⟩ := E.sh j d (fun z => hj ((ho j).mpr (.inr z))) hd
    exact ⟨v, h1, h2.adv (sub_ra sub)⟩
  · obtain ⟨e, hd⟩ := ne hd
    obtain ⟨a, h1, h2, h3⟩ := E.own j d (((ho j).mp hj).resolve_left e) hd
    exact ⟨a, h1, h2.adv (sub_ra sub) rfl, h3⟩
  · obtain ⟨d1, q1⟩ := gt_some h1
    obtain ⟨d2, q2⟩ := gt_some h2
    obtain ⟨e1, q1⟩ := ne q1
    obtain ⟨e2, q2⟩ := ne q2
    exact E.dis j k a (((ho j).mp hj).resolve_left e1) (((ho k).mp hk).resolve_left e2) (some_ne q1) (some_ne q2)
theorem eb_frz {i : Nat} {ow' : List Nat} {rest : List Stmt} {f : SS} (ho : ∀ j, j ∈ S.ow ↔ j = i ∨ j ∈ ow') (hn : i ∉ ow') (hf : i ∉ S.fx) (h : EvB X { S with ow := ow' } W rest f) : EvB X S W rest (bFrz i f) := by
  obtain ⟨t, p, q⟩ := h
  refine ⟨t, p, fun C σ H ρ D E w => ?_⟩
  obtain ⟨lv, w1⟩ := gd_wp w
  have hl : gt ρ i ≠ none := fun e => by
    unfold isLive at lv
    rw [e] at lv
    cases lv
  have sub : ∀ {σ' : St} {ρ' : Env}, ∀ a, C.O S σ' (st ρ' i none) a → C.O { S with ow := ow' } σ' ρ' a := fun {σ' ρ'} a z => z.imp id (M_thaw (C := C) ho)
  refine q C σ H ρ D (E.frz ho hn hf hl) ((Wp.bind w1).mono (fun c pl hx d σ' H' ρ' E' pay => ?_) fun r _ w2 σ' H' E' A' => ?_)
  · refine hx d σ' H' (st ρ' i none) (E'.thaw ho) fun f hf => ?_
    obtain ⟨dx, v, e1, e2, rp⟩ := pay f hf
    exact ⟨dx, v, e1, e2, rp.adv (sub_ra sub)⟩
  · have A : Adv (C.mo S σ ρ) H (C.mo S σ' (st r.2 i none)) H' := by
      refine ⟨fun a u na h => A'.st a u (fun z => na (M_frz (C := C) ho z)) h, fun a m => ?_, fun a m => ?_, A'.dm⟩
      · exact (A'.mn a (M_thaw (C := C) ho m)).imp (M_frz (C := C) ho) id
      · exact (A'.on a (sub a m)).imp (fun z => z.imp id (M_frz (C := C) ho)) id
    have q2 := w2 σ' H' (E'.thaw ho) A
    obtain ⟨fl, ρ1⟩ := r
    cases fl with
    | nx => exact q2
    | brk => exact q2
    | cont => exact q2
    | ret d => exact fun v rp => q2 v (rp.adv (sub_ra sub))
end
end EV

namespace EV
open PySem PySem.Spec L2 SX
open PyProof.Rows hiding St

section
variable {X : Cx} {S : ES} {W : WX} {pos : Pos}
/-! ### what is not reached -/
def sNo : SS := fun _ => .stuck
def eNo : SE := fun _ => .stuck
theorem es_no {s : Stmt} : EvS X S W s sNo := ⟨fun _ _ _ => False, ⟨fun _ _ _ _ _ _ h => h.elim⟩, fun _ _ _ _ _ _ w => w⟩
theorem ev_no {e : Expr} : EvE X S W e eNo := ⟨fun _ _ _ => False, ⟨fun _ _ _ _ _ _ h => h.elim⟩, fun _ _ _ _ _ _ w => w⟩

/-! ### stores, by the statement's reading -/
abbrev SemE (X : Cx) (S : ES) (W : WX) (t : TE) (f : SE) : Prop := ∀ (C : EC) (σ : St) (H : Hp) (ρ : Env) (Q : VK), ER X.K S C σ H ρ →
    Wp (f ρ) (XOk X.K S W C) (fun r => ∀ v H', ER X.K S C σ H' r.2 → Adv (C.mo S σ ρ) H (C.mo S σ r.2) H' → RV X.K S C σ H' r.2 v r.1 → Q v H') → t σ H Q
abbrev SemF (X : Cx) (S : ES) (W : WX) (t : TE) (f : Env → Res (D × Env)) : Prop := ∀ (C : EC) (σ : St) (H : Hp) (ρ : Env) (Q : VK), ER X.K S C σ H ρ →
    Wp (f ρ) (XOk X.K S W C) (fun r => ∀ p H', H p = none → ¬ C.O S σ r.2 p → ER X.K S (C.pl [p]) σ H' r.2 → Adv (C.mo S σ ρ) H (C.mo S σ r.2) H' → OwnAt X.K S.T ((C.pl [p]).O S σ r.2) H' p r.1 → Q (.ref p) H') → t σ H Q
theorem SemF.e {t : TE} {f : Env → Res (D × Env)} (q : SemF X S W t f) : SemE X S W t (eF f) := fun C σ H ρ Q E w =>
  q C σ H ρ _ E ((Wp.bind w).mono (fun _ _ h => h) fun r1 _ w1 p H1 h0 no E1 A1 ow => w1 _ H1 E1.unplus A1 ((ow.adv ra_unplus rfl).rep no))
theorem es_setP {s : Stmt} {t : TE} {i : Nat} {f : SE} (ps : PS X s (tAsg t (gName i))) (q : SemE X S W t f) (ho : i ∉ S.ow) (hfx : i ∉ S.fx) : EvS X S W s (sSet i f) := by
  refine ⟨_, ps, fun C σ H ρ D E w => ?_⟩
  refine q C σ H ρ _ E ((Wp.bind w).mono (fun _ _ h => h) fun r1 _ w1 v H1 E1 A1 R1 => ?_)
  obtain ⟨d, ed, w2⟩ := opt_wp w1
  exact w2 _ H1 (E1.set_sh ho hfx (R1.val ed)) (adv_set_sh ho A1)
theorem es_setFP {s : Stmt} {t : TE} {i : Nat} {f : Env → Res (D × Env)} (ps : PS X s (tAsg t (gName i))) (q : SemF X S W t f) (ho : i ∈ S.ow) (hfx : i ∉ S.fx) : EvS X S W s (sSetF i f) := by
  refine ⟨_, ps, fun C σ H ρ D E w => ?_⟩
  refine q C σ H ρ _ E ((Wp.bind w).mono (fun _ _ h => h) fun r1 _ w1 p H1 h0 no E1 A1 how => ?_)
  have A2 : Adv (C.mo S σ ρ) H ((C.pl [p]).mo S σ r1.2) H1 := ⟨A1.st, A1.mn, fun a z => (O_plus.mp z).elim (A1.on a) fun e => .inr (e ▸ h0), A1.dm⟩
  have E2 := E1.set_ow (C := C) (ps := []) (d := r1.1) ho hfx (by simp) (E.h0 h0) no how
  have A3 := adv_set_ow (C := C) (ps := []) (i := i) (d := r1.1) A2 h0
  rw [EC.pl_nil] at E2 A3
  exact w1 _ H1 E2 A3
/-- name = [elt for tg in iter (if c)] on one line: the store is swapped in -/
theorem lc_parts {elt tg iter : Expr} {scope : Scope} {own : List (Str × Nat)} {ts : List Nat} {fi : Env → Res (List D × Env)} {g : D → Env → Res Env} {fe : SE} {i : Nat} {y : Str} {py spos : Pos} (hc : X.calm = true) (hN : X.N.Nodup) (ho : ∀ v, v ∈ own.map (·.2) → v ∉ S.ow) (hf : ∀ v, v ∈ own.map (·.2) → v ∉ S.fx) (hts : ∀ i, i ∈ ts → i ∈ own.map (·.2))
    (hy : X.N[i]? = some y) (hyl : X.env.scope.names.lookup y = some .local) (hk : X.env.scope.kind = .function) (hl : (py.line == pos.line) = true) (ha : (scope.names.any fun (n, k) => n == y && (k == .local || k == .cell)) = false)
    (hi : EvI X S W tg iter fi) (ok : BlkOk X.N X.env.scope scope own)
    (hg : ∀ (s : Shared) (H : Hp) (C : Addr) (cl : List (Str × Addr)) (fp : List Addr), EvG (X.blk s H scope (compEnvC scope cl C X.env) fp) S ts tg g)
    (he : ∀ (s : Shared) (H : Hp) (C : Addr) (cl : List (Str × Addr)) (fp : List Addr), EvE (X.blk s H scope (compEnvC scope cl C X.env) fp) S WF elt fe) (hs : ∀ x, foldedSetIterable iter X.env x = pure x := by intro _; rfl) :
    ∃ t, PS X (.Assign [.Name y py] (.ListComp elt [⟨tg, iter, [], 0⟩] scope pos) spos) (tAsg t (gName i)) ∧ SemF X S W t (fLc (own.map (·.2)) fi g cYes fe) := by
  obtain ⟨wi, pi, qi⟩ := hi
  refine ⟨_, ps_setLc hc hN hy hyl (sw_true hk hyl hl ha) pi ok (g := canG X.K S ts g) (tt := tYes) (te := canE X.K S WF fe) (fun s H C cl fp => (hg s H C cl fp).can) (fun _ _ _ _ _ => pts_nil) (fun s H C cl fp => (he s H C cl fp).can) hs, fun C σ H ρ Q E w => ?_⟩
  exact lc_can (cnd := cYes) ho hf hts qi (fun C σ H ρ Q E w => w H E (.refl _ _)) C σ H ρ Q E w
theorem lc_partsIf {elt tg iter c : Expr} {scope : Scope} {own : List (Str × Nat)} {ts : List Nat} {fi : Env → Res (List D × Env)} {g : D → Env → Res Env} {fc : Env → Res (Bool × Env)} {fe : SE} {i : Nat} {y : Str} {py spos : Pos} (hc : X.calm = true) (hN : X.N.Nodup) (ho : ∀ v, v ∈ own.map (·.2) → v ∉ S.ow) (hf : ∀ v, v ∈ own.map (·.2) → v ∉ S.fx) (hts : ∀ i, i ∈ ts → i ∈ own.map (·.2))
    (hy : X.N[i]? = some y) (hyl : X.env.scope.names.lookup y = some .local) (hk : X.env.scope.kind = .function) (hl : (py.line == pos.line) = true) (ha : (scope.names.any fun (n, k) => n == y && (k == .local || k == .cell)) = false)
    (hi : EvI X S W tg iter fi) (ok : BlkOk X.N X.env.scope scope own)
    (hg : ∀ (s : Shared) (H : Hp) (C : Addr) (cl : List (Str × Addr)) (fp : List Addr), EvG (X.blk s H scope (compEnvC scope cl C X.env) fp) S ts tg g)
    (ht : ∀ (s : Shared) (H : Hp) (C : Addr) (cl : List (Str × Addr)) (fp : List Addr), EvT (X.blk s H scope (compEnvC scope cl C X.env) fp) S WF c fc)
    (he : ∀ (s : Shared) (H : Hp) (C : Addr) (cl : List (Str × Addr)) (fp : List Addr), EvE (X.blk s H scope (compEnvC scope cl C X.env) fp) S WF elt fe) (hs : ∀ x, foldedSetIterable iter X.env x = pure x := by intro _; rfl) :
    ∃ t, PS X (.Assign [.Name y py] (.ListComp elt [⟨tg, iter, [c], 0⟩] scope pos) spos) (tAsg t (gName i)) ∧ SemF X S W t (fLc (own.map (·.2)) fi g fc fe) := by
  obtain ⟨wi, pi, qi⟩ := hi
  refine ⟨_, ps_setLc hc hN hy hyl (sw_true hk hyl hl ha) pi ok (g := canG X.K S ts g) (tt := canT X.K S WF fc) (te := canE X.K S WF fe) (fun s H C cl fp => (hg s H C cl fp).can) (fun s H C cl fp => pts_one (ht s H C cl fp).can) (fun s H C cl fp => (he s H C cl fp).can) hs, fun C σ H ρ Q E w => ?_⟩
  exact lc_can ho hf hts qi (fun C σ H ρ Q E w => ⟨C, ρ, E, w⟩) C σ H ρ Q E w
theorem es_setLc {s : Stmt} {i : Nat} {f} (h : ∃ t, PS X s (tAsg t (gName i)) ∧ SemF X S W t f) (ho : i ∉ S.ow) (hfx : i ∉ S.fx) : EvS X S W s (sSet i (eF f)) := let ⟨_, p, q⟩ := h; es_setP p q.e ho hfx
theorem es_setLcF {s : Stmt} {i : Nat} {f} (h : ∃ t, PS X s (tAsg t (gName i)) ∧ SemF X S W t f) (ho : i ∈ S.ow) (hfx : i ∉ S.fx) : EvS X S W s (sSetF i f) := let ⟨_, p, q⟩ := h; es_setFP p q ho hfx

/-! ### a, b (, c) = .., values and new objects -/
def RQ (K : PySem.W.Frag) (T : Nat → Option Addr) (O : Addr → Prop) (H : Hp) : List V → List (Bool × D) → List Addr → Prop
  | [], [], [] => True
  | v :: vs, (false, d) :: xs, ps => Rep K T O H v d ∧ RQ K T O H vs xs ps
  | v :: vs, (true, d) :: xs, p :: ps => v = .ref p ∧ OwnAt K T O H p d ∧ RQ K T O H vs xs ps
  | _, _, _ => False
theorem RQ.down {K : PySem.W.Frag} {T : Nat → Option Addr} {O O' : Addr → Prop} {H : Hp} (sub : ∀ a, O' a → O a) : ∀ {vs : List V} {xs : List (Bool × D)} {ps : List Addr}, RQ K T O H vs xs ps → RQ K T O' H vs xs ps
  | [], [], [], _ => trivial
  | v :: vs, (false, d) :: xs, ps, h => ⟨h.1.adv (sub_ra sub), RQ.down sub h.2⟩
  | v :: vs, (true, d) :: xs, p :: ps, h => ⟨h.1, h.2.1.adv (sub_ra sub) rfl, RQ.down sub h.2.2⟩
  | [], [], _ :: _, h => h.elim
  | [], _ :: _, _, h => h.elim
  | _ :: _, [], _, h => h.elim
  | _ :: _, (true, _) :: _, [], h => h.elim
def EvQ (X : Cx) (S : ES) (W : WX) (es : List Expr) (f : Env → Res (List (Bool × D) × Env)) : Prop :=
  ∃ t : TA, PA X es t ∧ ∀ (C : EC) (σ : St) (H : Hp) (ρ : Env) (Q : List V → Hp → Prop), ER X.K S C σ H ρ →
    Wp (f ρ) (XOk X.K S W C) (fun r => ∀ vs ps H', (∀ p, p ∈ ps → H p = none ∧ ¬ C.O S σ r.2 p) → ps.Nodup → ER X.K S (C.pl ps) σ H' r.2 → Adv (C.mo S σ ρ) H (C.mo S σ r.2) H' → RQ X.K S.T ((C.pl ps).O S σ r.2) H' vs r.1 ps → Q vs H') → t σ H Q
def qNil : Env → Res (List (Bool × D) × Env) := fun ρ => .ok ([], ρ)
def qVal (f : SE) (fs : Env → Res (List (Bool × D) × Env)) : Env → Res (List (Bool × D) × Env) := fun ρ => f ρ >>= fun r1 => ofOpt (valOf r1.1) >>= fun d => fs r1.2 >>= fun r2 => .ok ((false, d) :: r2.1, r2.2)
def qNew (f : Env → Res (D × Env)) (fs : Env → Res (List (Bool × D) × Env)) : Env → Res (List (Bool × D) × Env) := fun ρ => f ρ >>= fun r1 => fs r1.2 >>= fun r2 => .ok ((true, r1.1) :: r2.1, r2.2)
theorem eq_nil : EvQ X S W [] qNil := ⟨_, pa_nil, fun C σ H ρ Q E w => w [] [] H (fun _ h => nomatch h) List.nodup_nil (by rw [EC.pl_nil]; exact E) (.refl _ _) trivial⟩
variable {e : Expr} {es : List Expr}
theorem eq_val {f : SE} {fs} (ha : EvE X S W e f) (hr : EvQ X S W es fs) (hs : starEach (e :: es) X.env = (false, eval e X.env) :: starEach es X.env := by rfl) : EvQ X S W (e :: es) (qVal f fs) := by
  obtain ⟨ta, pa, qa⟩ := ha
  obtain ⟨tr, pr, qr⟩ := hr
  refine ⟨_, pa_cons pa pr hs, fun C σ H ρ Q E w => ?_⟩
  refine qa C σ H ρ _ E ((Wp.bind w).mono (fun _ _ h => h) fun r1 _ w1 v1 H1 E1 A1 R1 => ?_)
  obtain ⟨d, ed, w2⟩ := opt_wp w1
  refine qr C σ H1 r1.2 _ E1 ((Wp.bind w2).mono (fun _ _ h => h) fun r2 _ w3 vs ps H2 hp nd E2 A2 R2 => ?_)
  have ra : RA (C.O S σ r1.2) H1 ((C.pl ps).O S σ r2.2) H2 := ⟨A2.ra.st, fun a z => (O_pl.mp z).elim (A2.on a) fun m => .inr (hp a m).1, A2.dm⟩
  exact w3 (v1 :: vs) ps H2 (fun p m => ⟨A1.back (hp p m).1, (hp p m).2⟩) nd E2 (A1.trans A2) ⟨(R1.val ed).adv ra, R2⟩
theorem eq_new {f : Env → Res (D × Env)} {fs} (ha : EvF X S W e f) (hr : EvQ X S W es fs) (hs : starEach (e :: es) X.env = (false, eval e X.env) :: starEach es X.env := by rfl) : EvQ X S W (e :: es) (qNew f fs) := by
  obtain ⟨ta, pa, qa⟩ := ha
  obtain ⟨tr, pr, qr⟩ := hr
  refine ⟨_, pa_cons pa pr hs, fun C σ H ρ Q E w => ?_⟩
  refine qa C σ H ρ _ E ((Wp.bind w).mono (fun _ _ h => h) fun r1 _ w1 p H1 h0 no E1 A1 ow => ?_)
  refine qr (C.pl [p]) σ H1 r1.2 _ E1 ((Wp.bind w1).mono (fun c pl hx d σ' H' ρ' E' pay => hx d σ' H' ρ' E'.unplus fun f hf => ?_) fun r2 _ w2 vs ps H2 hp nd E2 A2 R2 => ?_)
  · obtain ⟨dx, v, e1, e2, rp⟩ := pay f hf
    exact ⟨dx, v, e1, e2, rp.adv ra_unplus⟩
  · have h1 : H1 p ≠ none := by
      obtain ⟨u, hu, _⟩ := ow.mut
      exact some_ne hu
    have nM : ¬ EC.M S σ r1.2 p := fun m => by
      obtain ⟨j, g1, g2, g3⟩ := m
      obtain ⟨d, hd⟩ := gt_some g2
      obtain ⟨a, k1, k2, k3, k4⟩ := E1.own j d g1 hd
      rw [g3] at k1
      obtain rfl : p = a := V.ref.inj (Option.some.inj (Option.some.inj k1))
      rcases k4 with k4 | k4
      · -- a lent address was there at the start
        exact no (.inr ⟨j, g1, g2, g3⟩)
      · exact k4.2 (.inr (List.mem_singleton.mpr rfl))
    have nps : p ∉ ps := fun m => h1 (hp p m).1
    have keep : H2 p = H1 p := by
      obtain ⟨u, hu, _⟩ := ow.mut
      exact (A2.st p u nM hu).trans hu.symm
    rw [EC.pl_pl] at E2 R2
    have ra : RA ((C.pl [p]).O S σ r1.2) H1 ((C.pl (p :: ps)).O S σ r2.2) H2 := by
      refine ⟨A2.ra.st, fun a z => ?_, A2.dm⟩
      rcases O_pl.mp z with z | z
      · exact A2.on a (O_plus.mpr (.inl z))
      · rcases List.mem_cons.mp z with rfl | z
        · exact .inl (O_plus.mpr (.inr rfl))
        · exact .inr (hp a z).1
    have no2 : ¬ C.O S σ r2.2 p := fun z => by
      rcases z with z | z
      · exact no (.inl z)
      · rcases A2.mn p z with m | m
        · exact nM m
        · exact h1 m
    have A3 : Adv (C.mo S σ ρ) H (C.mo S σ r2.2) H2 := by
      refine ⟨fun a u na h => A2.st a u (fun z => ?_) (A1.st a u na h), fun a z => ?_, fun a z => ?_, fun a h => A2.dm a (A1.dm a h)⟩
      · rcases A1.mn a z with z | z
        · exact na z
        · rw [h] at z; cases z
      · rcases A2.mn a z with z | z
        · exact A1.mn a z
        · exact .inr (A1.back z)
      · rcases A2.on a (O_pl.mpr (.inl z)) with z2 | z2
        · rcases O_plus.mp z2 with z2 | z2
          · exact A1.on a z2
          · subst z2; exact absurd z no2
        · exact .inr (A1.back z2)
    refine w2 (.ref p :: vs) (p :: ps) H2 (fun a m => ?_) (List.nodup_cons.mpr ⟨nps, nd⟩) E2 A3 ⟨rfl, ow.adv ra keep, R2⟩
    rcases List.mem_cons.mp m with rfl | m
    · exact ⟨h0, no2⟩
    · exact ⟨A1.back (hp a m).1, fun z => (hp a m).2 (O_plus.mpr (.inl z))⟩
end
end EV

namespace EV
open PySem PySem.Spec L2 SX
open PyProof.Rows hiding St
def stsQ : Env → List (Nat × Bool) → List (Bool × D) → Option Env
  | ρ, [], [] => some ρ
  | ρ, (i, b) :: is, (b', d) :: xs => bif b == b' then stsQ (st ρ i (some d)) is xs else none
  | _, _, _ => none
def setAll : St → List (Nat × Bool) → List V → St
  | σ, (i, _) :: is, v :: vs => setAll (σ.set i (some v)) is vs
  | σ, _, _ => σ
/-- what is stored owns as its slot does -/
def OkT (S : ES) (is : List (Nat × Bool)) : Prop := ∀ i b, (i, b) ∈ is → i ∉ S.fx ∧ (b = true → i ∈ S.ow) ∧ (b = false → i ∉ S.ow)
theorem stores {K : PySem.W.Frag} {S : ES} {C : EC} {H : Hp} : ∀ {is : List (Nat × Bool)} {vs : List V} {xs : List (Bool × D)} {ps : List Addr} {σ : St} {ρ ρ' : Env}, OkT S is → ER K S (C.pl ps) σ H ρ → RQ K S.T ((C.pl ps).O S σ ρ) H vs xs ps → (∀ p, p ∈ ps → C.H0 p = none ∧ ¬ C.O S σ ρ p) → ps.Nodup → stsQ ρ is xs = some ρ' →
    ER K S C (setAll σ is vs) H ρ' ∧ ∀ (m : MO) (H0 : Hp), Adv m H0 ((C.pl ps).mo S σ ρ) H → (∀ p, p ∈ ps → H0 p = none) → Adv m H0 (C.mo S (setAll σ is vs) ρ') H
  | [], vs, xs, ps, σ, ρ, ρ', _, E, R, _, _, e => by
    cases xs with
    | cons x xs => cases e
    | nil =>
      cases e
      cases vs with
      | cons v vs => exact R.elim
      | nil =>
        cases ps with
        | cons p ps => exact R.elim
        | nil =>
          rw [EC.pl_nil] at E
          refine ⟨E, fun m H0 A _ => ?_⟩
          rw [EC.pl_nil] at A
          exact A
  | (i, b) :: is, vs, xs, ps, σ, ρ, ρ', ok, E, R, hp, nd, e => by
    cases xs with
    | nil => cases e
    | cons x xs =>
      obtain ⟨b', d⟩ := x
      have e' : (bif b == b' then stsQ (st ρ i (some d)) is xs else none) = some ρ' := e
      have bb : b = b' := by
        cases q : (b == b') with
        | true => exact eq_of_beq q
        | false => rw [q] at e'; cases e'
      subst bb
      rw [beq_self_eq_true] at e'
      have e' : stsQ (st ρ i (some d)) is xs = some ρ' := e'
      have ok' : OkT S is := fun j c hm => ok j c (List.mem_cons_of_mem _ hm)
      obtain ⟨nf, o1, o2⟩ := ok i b List.mem_cons_self
      cases vs with
      | nil => cases b <;> exact R.elim
      | cons v vs =>
        cases b with
        | false =>
          have ho := o2 rfl
          have E1 := E.set_sh ho nf R.1
          have sub : ∀ a, (C.pl ps).O S (σ.set i (some v)) (st ρ i (some d)) a → (C.pl ps).O S σ ρ a := fun a z => z.imp id (M_set_sh ho)
          obtain ⟨E2, A2⟩ := stores ok' E1 (R.2.down sub) (fun p m => ⟨(hp p m).1, fun z => (hp p m).2 (z.imp id (M_set_sh ho))⟩) nd e'
          exact ⟨E2, fun m H0 A h0 => A2 m H0 (adv_set_sh ho A) h0⟩
        | true =>
          have ho := o1 rfl
          cases ps with
          | nil => exact R.elim
          | cons p ps =>
            obtain ⟨rfl, how, R'⟩ := R
            obtain ⟨np, nd'⟩ := List.nodup_cons.mp nd
            have hpp := hp p List.mem_cons_self
            have E1 := E.set_ow (C := C) ho nf np hpp.1 hpp.2 how
            have sub : ∀ a, (C.pl ps).O S (σ.set i (some (.ref p))) (st ρ i (some d)) a → (C.pl (p :: ps)).O S σ ρ a := fun a z => by
              rcases z with z | z
              · exact .inl (z.imp id fun m => List.mem_cons_of_mem _ m)
              · rcases M_set_ow z with z | rfl
                · exact .inr z
                · exact .inl (.inr List.mem_cons_self)
            obtain ⟨E2, A2⟩ := stores ok' E1 (R'.down sub) (fun a m => ⟨(hp a (List.mem_cons_of_mem _ m)).1, fun z => by
              rcases z with z | z
              · exact (hp a (List.mem_cons_of_mem _ m)).2 (.inl z)
              · rcases M_set_ow z with z | rfl
                · exact (hp a (List.mem_cons_of_mem _ m)).2 (.inr z)
                · exact np m⟩) nd' e'
            exact ⟨E2, fun m H0 A h0 => A2 m H0 (adv_set_ow A (h0 p List.mem_cons_self)) fun a ha => h0 a (List.mem_cons_of_mem _ ha)⟩
section
variable {X : Cx} {S : ES} {W : WX} {pos : Pos}
def sPar (is : List (Nat × Bool)) (fq : Env → Res (List (Bool × D) × Env)) : SS := fun ρ => fq ρ >>= fun r => ofOpt (stsQ r.2 is r.1) >>= fun ρ' => .ok (.nx, ρ')
theorem stsQ_len : ∀ {is : List (Nat × Bool)} {xs : List (Bool × D)} {ρ ρ' : Env}, stsQ ρ is xs = some ρ' → xs.length = is.length
  | [], [], _, _, _ => rfl
  | [], _ :: _, _, _, e => nomatch e
  | _ :: _, [], _, _, e => nomatch e
  | (i, b) :: is, (b', d) :: xs, ρ, ρ', e => by
    have e' : (bif b == b' then stsQ (st ρ i (some d)) is xs else none) = some ρ' := e
    cases q : (b == b') with
    | true => rw [q] at e'; exact congrArg (· + 1) (stsQ_len e')
    | false => rw [q] at e'; cases e'
theorem RQ.length {K : PySem.W.Frag} {T : Nat → Option Addr} {O : Addr → Prop} {H : Hp} : ∀ {vs : List V} {xs : List (Bool × D)} {ps : List Addr}, RQ K T O H vs xs ps → vs.length = xs.length
  | [], [], [], _ => rfl
  | v :: vs, (false, d) :: xs, ps, h => congrArg (· + 1) (RQ.length h.2)
  | v :: vs, (true, d) :: xs, p :: ps, h => congrArg (· + 1) (RQ.length h.2.2)
  | [], [], _ :: _, h => h.elim
  | [], _ :: _, _, h => h.elim
  | _ :: _, [], _, h => h.elim
  | _ :: _, (true, _) :: _, [], h => h.elim
theorem es_par2 {i j : Nat} {b1 b2 : Bool} {x y : Str} {a b : Expr} {px py pt : Pos} {kt k2 pt2} {fq} (ok : OkT S [(i, b1), (j, b2)]) (hc : X.calm = true) (hN : X.N.Nodup) (hi : X.N[i]? = some x) (hj : X.N[j]? = some y) (hij : i ≠ j)
    (hx : X.env.scope.names.lookup x = some .local) (hy : X.env.scope.names.lookup y = some .local) (ha : EvQ X S W [a, b] fq)
    (hw : swappedStores [.Tuple [.Name x px, .Name y py] kt pt] (.Tuple [a, b] k2 pt2) X.env = pure (some [x, y]))
    (hs : swapsWithSole [.Tuple [.Name x px, .Name y py] kt pt] (.Tuple [a, b] k2 pt2) pos.line X.env = pure false := by rfl) :
    EvS X S W (.Assign [.Tuple [.Name x px, .Name y py] kt pt] (.Tuple [a, b] k2 pt2) pos) (sPar [(i, b1), (j, b2)] fq) := by
  obtain ⟨t, p, q⟩ := ha
  refine ⟨_, ps_par hc hN hi hj hij hx hy p hw hs, fun C σ H ρ D E w => ?_⟩
  refine q C σ H ρ _ E ((Wp.bind w).mono (fun _ _ h => h) fun r1 _ w1 vs ps H1 hp nd E1 A1 R1 => ?_)
  obtain ⟨ρ', e1, w2⟩ := opt_wp w1
  have hl := R1.length.trans (stsQ_len e1)
  match vs, hl, R1 with
  | [v, u], _, R1 =>
    obtain ⟨E2, A2⟩ := stores ok E1 R1 (fun p m => ⟨E.h0 (hp p m).1, (hp p m).2⟩) nd e1
    refine ⟨v, u, rfl, w2 _ H1 E2 (A2 _ H ⟨A1.st, A1.mn, fun a z => (O_pl.mp z).elim (A1.on a) fun m => .inr (hp a m).1, A1.dm⟩ fun p m => (hp p m).1)⟩
theorem es_par3 {i j l : Nat} {b1 b2 b3 : Bool} {x y z : Str} {a b c : Expr} {px py pz pt : Pos} {kt k2 pt2} {fq} (ok : OkT S [(i, b1), (j, b2), (l, b3)]) (hc : X.calm = true) (hN : X.N.Nodup) (hi : X.N[i]? = some x) (hj : X.N[j]? = some y) (hk : X.N[l]? = some z) (hij : i ≠ j) (hil : i ≠ l) (hjl : j ≠ l)
    (hx : X.env.scope.names.lookup x = some .local) (hy : X.env.scope.names.lookup y = some .local) (hz : X.env.scope.names.lookup z = some .local) (ha : EvQ X S W [a, b, c] fq)
    (hw : swappedStores [.Tuple [.Name x px, .Name y py, .Name z pz] kt pt] (.Tuple [a, b, c] k2 pt2) X.env = pure (some [x, y, z]))
    (hs : swapsWithSole [.Tuple [.Name x px, .Name y py, .Name z pz] kt pt] (.Tuple [a, b, c] k2 pt2) pos.line X.env = pure false := by rfl) :
    EvS X S W (.Assign [.Tuple [.Name x px, .Name y py, .Name z pz] kt pt] (.Tuple [a, b, c] k2 pt2) pos) (sPar [(i, b1), (j, b2), (l, b3)] fq) := by
  obtain ⟨t, p, q⟩ := ha
  refine ⟨_, ps_par3 hc hN hi hj hk hij hil hjl hx hy hz p hw hs, fun C σ H ρ D E w => ?_⟩
  refine q C σ H ρ _ E ((Wp.bind w).mono (fun _ _ h => h) fun r1 _ w1 vs ps H1 hp nd E1 A1 R1 => ?_)
  obtain ⟨ρ', e1, w2⟩ := opt_wp w1
  have hl := R1.length.trans (stsQ_len e1)
  match vs, hl, R1 with
  | [v, u, w'], _, R1 =>
    obtain ⟨E2, A2⟩ := stores ok E1 R1 (fun p m => ⟨E.h0 (hp p m).1, (hp p m).2⟩) nd e1
    refine ⟨v, u, w', rfl, w2 _ H1 E2 (A2 _ H ⟨A1.st, A1.mn, fun a z => (O_pl.mp z).elim (A1.on a) fun m => .inr (hp a m).1, A1.dm⟩ fun p m => (hp p m).1)⟩

/-! ### a def that returns a new list -/
def EvBF (X : Cx) (S : ES) (W : WX) (s : List Stmt) (f : Env → Res (D × Env)) : Prop :=
  ∃ t : TS, PSs X s t ∧ ∀ (C : EC) (σ : St) (H : Hp) (ρ : Env) (D : Ends), ER X.K S C σ H ρ →
    Wp (f ρ) (XOk X.K S W C) (fun r => ∀ σ' p H', H p = none → ¬ C.O S σ' r.2 p → ER X.K S (C.pl [p]) σ' H' r.2 → Adv (C.mo S σ ρ) H (C.mo S σ' r.2) H' → OwnAt X.K S.T ((C.pl [p]).O S σ' r.2) H' p r.1 → D.rt (.ref p) H') → t D σ H
theorem ef_ret {e : Expr} {f} (h : EvF X S W e f) : EvBF X S W [.Return (some e) pos] f := by
  obtain ⟨t, p, q⟩ := h
  refine ⟨_, pss_cons (ps_ret p) pss_nil, fun C σ H ρ D E w => ?_⟩
  exact q C σ H ρ _ E (w.mono (fun _ _ h => h) fun r1 _ w1 p H1 h0 no E1 A1 ow => w1 σ p H1 h0 no E1 A1 ow)
def fSeq (f : SS) (g : Env → Res (D × Env)) : Env → Res (D × Env) := fun ρ => f ρ >>= fun r => match r.1 with
  | .nx => g r.2
  | _ => .stuck
theorem ef_seq {stm : Stmt} {rest : List Stmt} {f : SS} {g} (h1 : EvS X S W stm f) (h2 : EvBF X S W rest g) : EvBF X S W (stm :: rest) (fSeq f g) := by
  obtain ⟨t1, p1, q1⟩ := h1
  obtain ⟨t2, p2, q2⟩ := h2
  refine ⟨_, pss_cons p1 p2, fun C σ H ρ D E w => ?_⟩
  refine q1 C σ H ρ _ E ((Wp.bind w).mono (fun _ _ h => h) fun r1 _ w1 σ1 H1 E1 A1 => ?_)
  obtain ⟨fl, ρ1⟩ := r1
  cases fl with
  | nx => exact q2 C σ1 H1 ρ1 D E1 (w1.mono (fun _ _ h => h) fun r2 _ w2 σ2 p H2 h0 no E2 A2 ow => w2 σ2 p H2 (A1.back h0) no E2 (A1.trans A2) ow)
  | brk => exact w1.elim
  | cont => exact w1.elim
  | ret d => exact w1.elim
structure FF where
  np : Nat
  m : List D → Res D
def spFF (K : PySem.W.Frag) (S0 : ES) (F : FF) : Sp := fun vs H Q E => ∃ (O : Addr → Prop) (ds : List D), vs.length = F.np ∧ OH O H ∧ ArgsR K S0.T O H [] 0 vs ds ∧
  Wp (F.m ds) (fun c p => ∀ d H', Ex H H' → Pay K S0 O H' c d p → E (S0.cls c) d H')
    (fun r => ∀ p H', H p = none → Ex H H' → OwnAt K S0.T (fun a => O a ∨ a = p) H' p r → Q (.ref p) H')
def runBF (n : Nat) (B : Env → Res (D × Env)) (ds : List D) : Res D := B (start0 n ds) >>= fun r => .ok r.1
end
theorem okT_of {S : ES} {is : List (Nat × Bool)} (h : is.all (fun z => !S.fx.contains z.1 && (z.2 == S.ow.contains z.1)) = true) : OkT S is := fun i b hm => by
  have := List.all_eq_true.mp h (i, b) hm
  rw [Bool.and_eq_true, Bool.not_eq_true', beq_iff_eq] at this
  obtain ⟨h1, h2⟩ := this
  refine ⟨fun hf => ?_, fun hb => ?_, fun hb hi => ?_⟩
  · rw [List.contains_iff_mem.mpr hf] at h1; cases h1
  · have h2 : b = S.ow.contains i := h2
    rw [hb] at h2
    exact List.contains_iff_mem.mp h2.symm
  · have h2 : b = S.ow.contains i := h2
    rw [hb, List.contains_iff_mem.mpr hi] at h2
    cases h2
theorem argsR_nil {K : PySem.W.Frag} {T : Nat → Option Addr} {O : Addr → Prop} {H : Hp} {k i : Nat} {vs : List V} {ds : List D} {d : D} (h : ArgsR K T O H [] k vs ds) (e : ds[i]? = some d) : ∃ v, vs[i]? = some v ∧ Rep K T O H v d := by
  obtain ⟨v, h1, h2⟩ := h.get e
  rw [if_neg (fun z => nomatch z)] at h2
  exact ⟨v, h1, h2⟩
theorem fn_evF {P : Program} {w : World} {K : PySem.W.Frag} {mg : Str → Option Value} {base : Heap} {x qual : Str} {stm : Stmt} {f : Addr} {fd : FuncData} {N ps : List Str} {k : Nat} {S0 : ES} {ow : List Nat} {B : Env → Res (D × Env)} (F : Fun K x qual stm f fd) (Sc : FnScope N ps (defScope stm))
    (ho : ∀ i, i ∈ ow → ps.length ≤ i)
    (hbody : ∀ (cdv : Value) (A : Around) (outer : List PySem.Env) (s : Shared) (H : Hp) (E : XK), Room k (A.deeper (envOfC qual (defScope stm) s.heap.objs.size f cdv)) →
      Takes (cxOf (L2.CX P w) P w K mg base N qual (defScope stm) f cdv A outer s H E) (fun cls d _ H => E cls d H) →
      EvBF (cxOf (L2.CX P w) P w K mg base N qual (defScope stm) f cdv A outer s H E) { S0 with ow := ow, fx := [] } (fun cls d _ H => E cls d H) (defBody stm) B) :
    FnOk P w K mg base (L2.CX P w) (k + 1) f fd ps (spFF K S0 ⟨ps.length, runBF N.length B⟩) := by
  refine F.okX Sc (fun vs H Q E h => ?_) fun cdv A outer s H vs Q E hr h => ?_
  · obtain ⟨O, ds, hl, _⟩ := h
    exact hl
  · obtain ⟨O, ds, hl, oh, ar, hw⟩ := h
    have hl : vs.length = ps.length := hl
    have tk : Takes (cxOf (L2.CX P w) P w K mg base N qual (defScope stm) f cdv A outer s H E) (fun cls d _ H => E cls d H) := takes_of rfl rfl rfl rfl
    obtain ⟨t, p, q⟩ := hbody cdv A outer s H E hr tk
    refine ⟨t, p, ?_⟩
    have hN : ps.length ≤ N.length := by
      have := congrArg List.length Sc.pre
      rw [List.length_take] at this
      omega
    have hds : ds.length = vs.length := ar.length.symm
    let S : ES := { S0 with ow := ow, fx := [] }
    let C : EC := ⟨H, O, fun _ => .non, fun _ => False, []⟩
    have noM : ∀ a, ¬ EC.M S (L2.start N vs) (start0 N.length ds) a := fun a ⟨i, h1, h2, h3⟩ => by
      obtain ⟨d, hd⟩ := gt_some h2
      have hd := gt_start0 hd
      have hi : i < ds.length := (List.getElem?_eq_some_iff.mp hd).1
      have := ho i h1
      omega
    have hO : C.O S (L2.start N vs) (start0 N.length ds) = O := by
      funext a
      exact propext ⟨fun z => z.elim id fun m => absurd m (noM a), .inl⟩
    have nol : ∀ {i d}, i ∈ ow → gt (start0 N.length ds) i = some d → False := fun {i d} hi hd => by
      have hd := gt_start0 hd
      have hil : i < ds.length := (List.getElem?_eq_some_iff.mp hd).1
      have := ho i hi
      omega
    have E0 : ER K S C (L2.start N vs) H (start0 N.length ds) := by
      refine ⟨?_, fun i d hi hd => ?_, fun i d hi hd => (nol hi hd).elim, fun i j a hi hj h1 h2 h3 h4 => ?_, fun i hi => (nomatch hi), fun a u h => .inr (.inl h), fun a h => h, fun a o u h => (nomatch h), oh⟩
      · unfold start0 L2.start
        rw [List.length_append, List.length_append, List.length_map, List.length_map, List.length_replicate, List.length_replicate, hds]
      · obtain ⟨v, h1, h2⟩ := argsR_nil ar (gt_start0 hd)
        rw [hO]
        exact ⟨v, start_at h1, h2⟩
      · obtain ⟨d, hd⟩ := gt_some h1
        exact (nol hi hd).elim
    have ex : ∀ {O' : Addr → Prop} {σ' : St} {H' : Hp} {ρ' : Env} , ER K S ⟨H, O', fun _ => .non, fun _ => False, []⟩ σ' H' ρ' → Ex H H' := fun {O' σ' H' ρ'} E' a u h => (E'.fr a u h).elim (fun z => z.elim) fun z => z.resolve_right fun ⟨o, m⟩ => nomatch m
    have lower : ∀ {σ' : St} {H' : Hp} {ρ' : Env}, RA (C.O S σ' ρ') H' O H' := sub_ra fun a h => .inl h
    refine q C _ H _ _ E0 ((Wp.bind (show Wp (runBF N.length B ds) _ _ from hw)).mono (fun c p hx d σ' H' ρ' E' pay => hx d H' (ex E') fun f hf => ?_) fun r1 e1 w1 σ1 p H1 h0 no E1 A1 own => ?_)
    · obtain ⟨dx, v, e1, e2, rp⟩ := pay f hf
      exact ⟨dx, v, e1, e2, rp.adv lower⟩
    · exact w1 p H1 h0 (ex E1) (own.adv (sub_ra fun a z => O_plus.mpr (z.imp .inl id)) rfl)
structure CalFF (P : Program) (w : World) (K : PySem.W.Frag) (mg : Str → Option Value) (base : Heap) (S0 : ES) (k : Nat) (x : Str) (F : FF) : Prop where
  ex : ∃ (f : Addr) (fd : FuncData) (ps : List Str), FnOk P w K mg base (L2.CX P w) k f fd ps (spFF K S0 F) ∧ mg x = some (.ref f) ∧ PySem.W.keepIn K (.ref f) = true ∧ Binds K fd ps []
section
variable {X : Cx} {S S0 : ES} {W : WX} {pos p : Pos} {F : FF} {x : Str} {k j : Nat} {e : Expr} {es : List Expr} {fs : Env → Res (List DV × Env)}
def fCall (F : FF) (fs : Env → Res (List DV × Env)) : Env → Res (D × Env) := fun ρ => fs ρ >>= fun r => ofOpt (vals r.1) >>= fun ds => gd (decide (ds.length = F.np)) >>= fun _ => F.m ds >>= fun d => .ok (d, r.2)
theorem argsR_of {K : PySem.W.Frag} {T : Nat → Option Addr} {O : Addr → Prop} {H : Hp} : ∀ {k : Nat} {vs : List V} {ds : List D}, Reps K T O H vs ds → ArgsR K T O H [] k vs ds
  | _, [], [], _ => trivial
  | _, _ :: _, _ :: _, .cons h1 h2 => ⟨by rw [if_neg (fun z => nomatch z)]; exact h1, argsR_of h2⟩
theorem ef_call (tk : Takes X W) (c : CalFF X.prog X.w X.K X.mg X.base S0 k x F) (hS : S0.T = S.T ∧ S0.cls = S.cls ∧ S0.fld = S.fld) (hr : Room j X.A) (hk : k ≤ j) (hg : Gl X x) (ha : EvA X S W (e :: es) fs)
    (hdb : (x == ("__debug__" : Str)) = false := by decide) (he : starEach (e :: es) X.env = (false, eval e X.env) :: starEach es X.env := by rfl) (hpl : (backTo pos (starEach es X.env)).any (·.1) = false := by rfl) :
    EvF X S W (.Call (.Name x p) (e :: es) [] pos) (fCall F fs) := by
  obtain ⟨f, fd, ps, G, hm, kp, b⟩ := c.ex
  obtain ⟨t, pt, q⟩ := ha
  refine ⟨_, pe_callS G (hr.mono hk) hg hm kp b (fun σ => passAt tk σ) pt hdb he hpl, fun C σ H ρ Q E w => ?_⟩
  refine q C σ H ρ _ E ((Wp.bind w).mono (fun _ _ h => h) fun r1 _ w1 vs H1 E1 A1 R1 => ?_)
  obtain ⟨ds, e1, w2⟩ := opt_wp w1
  obtain ⟨e2, w3⟩ := gd_wp w2
  have rs := R1.reps e1
  refine ⟨C.O S σ r1.2, ds, rs.length.trans (of_decide_eq_true e2), E1.omut, by rw [hS.1]; exact argsR_of rs, (Wp.bind w3).mono (fun c p hx d H' x pay => ?_) fun d _ w4 p H2 h0 x own => ?_⟩
  · show W (S0.cls c) d σ H'
    rw [hS.2.1]
    exact hx d σ H' r1.2 (E1.ext x) (pay.lift hS.2.2.symm hS.1.symm (E1.ext x).omut (.inr fun a z => z))
  · rw [hS.1] at own
    have O_eq : (C.pl [p]).O S σ r1.2 = fun a => C.O S σ r1.2 a ∨ a = p := funext fun a => propext O_plus
    -- the new object stands, nothing else has changed
    obtain ⟨u, hu, mu⟩ := own.mut
    have E2 : ER X.K S (C.pl [p]) σ H2 r1.2 := by
      have E2 := E1.ext x
      have h0p : ∀ a, C.H0 a ≠ none → a ≠ p := fun a h e => E1.dom a h (e ▸ h0)
      have av : RA (C.O S σ r1.2) H1 ((C.pl [p]).O S σ r1.2) H2 := ⟨fun a w _ h => x.rd h, fun a h => (O_plus.mp h).imp id fun (e : a = p) => by rw [e]; exact h0, x.dm⟩
      refine ⟨E1.len, fun i d hi hd => let ⟨v, h1, h2⟩ := E1.sh i d hi hd; ⟨v, h1, h2.adv av⟩, fun i d hi hd => ?_, E1.dis, E1.fx, E2.fr, E2.dom, E2.lks, fun a h => ?_⟩
      · obtain ⟨a, g1, g2, g3, g4⟩ := E1.own i d hi hd
        obtain ⟨w, hw, _⟩ := g2.mut
        have nap : a ≠ p := fun e => by rw [e, h0] at hw; cases hw
        exact ⟨a, g1, g2.adv av ((x a w hw).trans hw.symm), fun q => ⟨(g3 q).1, fun z => z.elim (g3 q).2 fun e => nap (by simpa using e)⟩, g4.imp id fun q => ⟨q.1, fun z => z.elim q.2 fun e => nap (by simpa using e)⟩⟩
      · rcases h with h | h
        · exact E2.o0 a h
        · obtain rfl : a = p := by simpa using h
          exact ⟨u, .inl hu, mu⟩
    refine w4 p H2 (A1.back h0) (fun z => E1.osome z h0) E2 (A1.trans x.adv) ?_
    rw [O_eq]
    exact own
end
end EV

namespace EV
open PySem PySem.Spec L2 SX
open PyProof.Rows hiding St

/-! ### sorted texts -/
def insS (x : List Nat) : List (List Nat) → List (List Nat)
  | [] => [x]
  | y :: r => bif ltCps y x then y :: insS x r else x :: y :: r
def sortS : List (List Nat) → List (List Nat)
  | [] => []
  | x :: r => insS x (sortS r)
theorem ltCps_lt : ∀ a b : List Nat, ltCps a b = decide (a < b)
  | [], [] => by simp [ltCps]
  | [], b :: t => by simp [ltCps]
  | a :: r, [] => by simp [ltCps]
  | a :: r, b :: t => by
    show (decide (a < b) || (a == b && ltCps r t)) = _
    rw [ltCps_lt r t]
    by_cases h : a < b
    · have : a :: r < b :: t := List.cons_lt_cons_iff.mpr (.inl h)
      rw [decide_eq_true h, decide_eq_true this]
      rfl
    · by_cases e : a = b
      · subst e
        rw [decide_eq_false h, beq_self_eq_true, Bool.false_or, Bool.true_and]
        congr 1
        exact propext ⟨fun z => List.cons_lt_cons_iff.mpr (.inr ⟨rfl, z⟩), fun z => (List.cons_lt_cons_iff.mp z).elim (fun z => absurd z h) fun z => z.2⟩
      · have : ¬ a :: r < b :: t := fun z => (List.cons_lt_cons_iff.mp z).elim h fun z => e z.1
        rw [decide_eq_false h, decide_eq_false this, beq_eq_false_iff_ne.mpr e]
        rfl
def leS (a b : List Nat) : Prop := ltCps b a = false
theorem leS_iff {a b : List Nat} : leS a b ↔ a ≤ b := by
  unfold leS
  rw [ltCps_lt, decide_eq_false_iff_not]
  exact List.not_lt
theorem leS_trans {a b c : List Nat} (h1 : leS a b) (h2 : leS b c) : leS a c := leS_iff.mpr (List.le_trans (leS_iff.mp h1) (leS_iff.mp h2))
theorem leS_antisymm {a b : List Nat} (h1 : leS a b) (h2 : leS b a) : a = b := List.le_antisymm (leS_iff.mp h1) (leS_iff.mp h2)
theorem leS_total (a b : List Nat) : leS a b ∨ leS b a := (List.le_total a b).imp leS_iff.mpr leS_iff.mpr
theorem insS_perm (x : List Nat) : ∀ l, (insS x l).Perm (x :: l)
  | [] => .refl _
  | y :: r => by
    show (bif ltCps y x then y :: insS x r else x :: y :: r).Perm _
    cases ltCps y x with
    | false => exact .refl _
    | true => exact ((insS_perm x r).cons y).trans (List.Perm.swap x y r)
theorem sortS_perm : ∀ l, (sortS l).Perm l
  | [] => .refl _
  | x :: r => (insS_perm x _).trans ((sortS_perm r).cons x)
theorem insS_pw (x : List Nat) : ∀ {l}, l.Pairwise leS → (insS x l).Pairwise leS
  | [], _ => List.pairwise_singleton _ _
  | y :: r, h => by
    obtain ⟨h1, h2⟩ := List.pairwise_cons.mp h
    show (bif ltCps y x then y :: insS x r else x :: y :: r).Pairwise leS
    cases q : ltCps y x with
    | false =>
      refine List.pairwise_cons.mpr ⟨fun z hz => ?_, h⟩
      have xy : leS x y := q
      rcases List.mem_cons.mp hz with rfl | hz
      · exact xy
      · exact leS_trans xy (h1 z hz)
    | true =>
      refine List.pairwise_cons.mpr ⟨fun z hz => ?_, insS_pw x h2⟩
      have yx : leS y x := (leS_total y x).elim id fun z => by
        unfold leS at z
        rw [z] at q
        cases q
      rcases List.mem_cons.mp ((insS_perm x r).mem_iff.mp hz) with rfl | hz
      · exact yx
      · exact h1 z hz
theorem sortS_pw : ∀ l, (sortS l).Pairwise leS
  | [] => .nil
  | x :: r => insS_pw x (sortS_pw r)
theorem risingS_pw : ∀ (p : List Nat) (l : List (List Nat)), risingS (SX.S p) (l.map SX.S) = true → (p :: l).Pairwise leS
  | p, [], _ => List.pairwise_singleton _ _
  | p, x :: r, h => by
    have h' : (!ltCps (SX.S x).cps.toList (SX.S p).cps.toList && risingS (SX.S x) (r.map SX.S)) = true := h
    rw [S_toList, S_toList, Bool.and_eq_true, Bool.not_eq_true'] at h'
    have ih := risingS_pw x r h'.2
    obtain ⟨h1, h2⟩ := List.pairwise_cons.mp ih
    refine List.pairwise_cons.mpr ⟨fun z hz => ?_, ih⟩
    rcases List.mem_cons.mp hz with rfl | hz
    · exact h'.1
    · exact leS_trans h'.1 (h1 z hz)
theorem sortedS_pw {l : List (List Nat)} (h : sortedS (l.map SX.S) = true) : l.Pairwise leS := by
  cases l with
  | nil => exact .nil
  | cons x r => exact risingS_pw x r h
theorem sortS_unique {l m : List (List Nat)} (hp : m.Perm l) (hs : m.Pairwise leS) : m = sortS l :=
  List.Perm.eq_of_pairwise (le := leS) (fun a b _ _ h1 h2 => leS_antisymm h1 h2) hs (sortS_pw l) (hp.trans (sortS_perm l).symm)
theorem map_S_perm {ys : List Str} {l : List (List Nat)} (h : ys.Perm (l.map SX.S)) : ∃ m : List (List Nat), ys = m.map SX.S ∧ m.Perm l := by
  refine ⟨ys.map fun y => y.cps.toList, ?_, ?_⟩
  · rw [List.map_map]
    exact (List.map_id'' (fun y => S_tl y) ys).symm
  · have := h.map fun y => y.cps.toList
    rw [List.map_map] at this
    have e : l.map ((fun y : Str => y.cps.toList) ∘ SX.S) = l := List.map_id'' (fun y => S_toList y) l
    rw [e] at this
    exact this
section
variable {X : Cx} {S : ES} {W : WX} {pos : Pos}
def bSort : List D → Option D
  | [.lst xs] => (dStrs xs).bind fun ss => if ss.length < 64 then some (.lst ((sortS ss).map D.str)) else none
  | _ => none
theorem cf_sort : CalF' X (.builtin "sorted") bSort := by
  refine ⟨_, cr_sortedS, fun T O H vs ds d Q oh rt e w => ?_⟩
  unfold bSort at e
  split at e
  · rename_i xs
    cases q : dStrs xs with
    | none => rw [q] at e; cases e
    | some ss =>
      rw [q] at e
      have e : (if ss.length < 64 then some (D.lst ((sortS ss).map D.str)) else none) = some d := e
      split at e
      · rename_i hl
        cases e
        obtain rfl := strs_eq q
        obtain ⟨v, rfl, h⟩ := rt.one
        obtain ⟨a, vs, rfl, h1, h2⟩ := h.lst
        obtain ⟨rfl, oks⟩ := h2.strs
        refine ⟨a, ss.map SX.S, rfl, .inl h1, by rw [List.length_map]; exact hl, fun ys p hp hs h0 => ?_⟩
        obtain ⟨m, rfl, hm⟩ := map_S_perm hp
        obtain rfl := sortS_unique hm (sortedS_pw hs)
        exact w p _ h0 ⟨_, rfl, Reps.ofStrs _ fun s hs => oks s ((sortS_perm ss).mem_iff.mp hs)⟩
      · cases e
  · cases e
end
end EV

namespace EVT
open PySem PySem.Spec PyProof.Rows HT L2
section
variable {prog : Program} {w : World} {A : Around} {E : Value → Shared → Prop} {s : Shared}
theorem applied_rev {sl : Addr} {vs : Value} {n : Nat} {Q : Int × Int × Nat → Shared → Prop} (hs : s.heap.IsSliceOf sl .none .none vs) (ps : IsPart vs (some (-1)))
    (h : Q ((n : Int) - 1, -1, n) s) : wpAny (model prog w) A (Builtin.Slice.sliceApplied (.ref sl) (pure (n : Int))) Q E s := by
  obtain ⟨os, hos, hcs, hds⟩ := id hs
  unfold Builtin.Slice.sliceApplied Builtin.Slice.sliceFields
  refine wpAny_bind (wpAny_bind (wpAny_field hos hds (x := .none) rfl (wpAny_bind (wpAny_field hos hds (x := .none) rfl (wpAny_bind (wpAny_field hos hds (x := vs) rfl (wpAny_pure ?_)))))))
  refine wpAny_bind (slicePart_ ps ?_)
  show wpAny _ _ (if ((-1 : Int) == 0) = true then _ else _) _ _ s
  rw [if_neg (by decide)]
  refine wpAny_bind (slicePart_none (wpAny_bind (slicePart_none (wpAny_bind (wpAny_pure ?_)))))
  show wpAny _ _ (match Builtin.Slice.sliceAdjust none none (-1) (n : Int) with | (lo, hi) => pure (lo, (-1 : Int), Builtin.Slice.slicePlaces lo hi (-1))) _ _ s
  show wpAny _ _ (pure ((n : Int) - 1, (-1 : Int), Builtin.Slice.slicePlaces ((n : Int) - 1) (-1) (-1))) _ _ s
  have e : Builtin.Slice.slicePlaces ((n : Int) - 1) (-1) (-1) = n := by
    unfold Builtin.Slice.slicePlaces
    have h1 : ¬ ((-1 : Int) > 0) := by omega
    simp only [h1, if_false]
    have e2 : (-(-1) : Int) = 1 := by omega
    rw [e2, Int.ediv_one]
    split <;> omega
  rw [e]
  exact wpAny_pure h
theorem pick_rev (xs : Array Value) : ((List.range xs.size).filterMap fun (m : Nat) => xs[((xs.size : Int) - 1 + (m : Int) * (-1)).toNat]?).toArray = xs.toList.reverse.toArray := by
  congr 1
  have e : ∀ (m : Nat), m < xs.size → xs[((xs.size : Int) - 1 + (m : Int) * (-1)).toNat]? = xs.toList.reverse[m]? := fun m hm => by
    have : ((xs.size : Int) - 1 + (m : Int) * (-1)).toNat = xs.size - 1 - m := by omega
    rw [this, List.getElem?_reverse (by rw [Array.length_toList]; exact hm), Array.length_toList, Array.getElem?_toList]
  have e2 : (List.range xs.size).filterMap (fun (m : Nat) => xs[((xs.size : Int) - 1 + (m : Int) * (-1)).toNat]?) = (List.range xs.toList.reverse.length).filterMap (fun m => xs.toList.reverse[m]?) := by
    have hl : xs.toList.reverse.length = xs.size := by rw [List.length_reverse, Array.length_toList]
    rw [hl]
    have : ∀ (l : List Nat), (∀ m, m ∈ l → m < xs.size) → l.filterMap (fun (m : Nat) => xs[((xs.size : Int) - 1 + (m : Int) * (-1)).toNat]?) = l.filterMap (fun m => xs.toList.reverse[m]?) := by
      intro l
      induction l with
      | nil => intro _; rfl
      | cons a l ih =>
        intro hl
        rw [List.filterMap_cons, List.filterMap_cons, e a (hl a List.mem_cons_self), ih fun m hm => hl m (List.mem_cons_of_mem _ hm)]
    exact this _ fun m hm => List.mem_range.mp hm
  rw [e2]
  generalize xs.toList.reverse = l
  induction l with
  | nil => rfl
  | cons a l ih =>
    rw [List.length_cons, List.range_succ_eq_map, List.filterMap_cons]
    show a :: List.filterMap _ _ = _
    rw [List.filterMap_map]
    congr 1
theorem getItem_tuple_rev {t sl : Addr} {items : Array Value} {vs : Value} {Q : Value → Shared → Prop} (ht : IsTup s.heap t items) (hs : s.heap.IsSliceOf sl .none .none vs) (ps : IsPart vs (some (-1)))
    (h : Q (.ref s.heap.objs.size) { s with heap := s.heap.push { cls := .type "tuple", data := .seq items.toList.reverse.toArray } })
    (hsz : items.size ≤ sizeLine) : wpAny (model prog w) A (getItem (.ref t) (.ref sl)) Q E s := by
  have htake : sizeOk (.seq items.toList.reverse.toArray) := by
    show items.toList.reverse.toArray.size ≤ sizeLine
    rw [List.size_toArray, List.length_reverse, Array.length_toList]
    exact hsz
  obtain ⟨os, hos, hcs, hds⟩ := id hs
  have hTs : s.TypeIs (.ref sl) "slice" := ⟨os, hos, hcs⟩
  unfold getItem
  try with_reducible refine wpAny_holding ?_
  first | refine wpAny_bind (wpAny_pure ?_) | skip
  refine wpAny_bind (wpAny_sequenceKey ht.typeIs (by decide) ?_)
  refine wpAny_bind (wpAny_callSpecial?_slot (name := Str.ofString "__getitem__") ht.typeIs PyProof.Rows.slot_tuple_getitem
    (wpAny_call_entry PyProof.Rows.slot_tuple_getitem ht.typeIs entry_tuple_getitem ?_ (args_tuple_getitem _ _)))
  show wpAny _ _ (Builtin.Tuple.tupleItemsOf (.ref t) >>= _) _ _ s
  refine wpAny_bind (tupleItemsOf_ ht ?_)
  refine wpAny_bind (wpAny_typeOf hTs ?_)
  rw [if_pos (by decide)]
  refine wpAny_bind (applied_rev hs ps ?_)
  have hno : ¬ (((items.size : Int) - 1 == 0 && (-1 : Int) == 1 && items.size == items.size) = true) := by
    intro q
    rw [Bool.and_eq_true, Bool.and_eq_true] at q
    have q1 : (-1 : Int) = 1 := eq_of_beq q.1.2
    omega
  show wpAny _ _ (if ((items.size : Int) - 1 == 0 && (-1 : Int) == 1 && items.size == items.size) = true then _ else _) _ _ s
  rw [if_neg hno, pick_rev]
  first
    | exact wpAny_bind (m := Builtin.Tuple.tupleExact _) (wpAny_newObj_type (wpAny_pure ⟨_, rfl, wpAny_pure h⟩) htake)
    | exact wpAny_bind (m := Builtin.Tuple.tupleExact _) (wpAny_newObj_type (wpAny_bind (wpAny_pure (wpAny_pure ⟨_, rfl, wpAny_pure h⟩))) htake)
    | exact wpAny_bind (wpAny_bind (m := Builtin.Tuple.tupleExact _) (wpAny_newObj_type (wpAny_pure (wpAny_pure ⟨_, rfl, wpAny_pure h⟩)) htake))
    | exact wpAny_bind (wpAny_bind (m := Builtin.Tuple.tupleExact _) (wpAny_newObj_type (wpAny_pure ⟨_, rfl, wpAny_pure h⟩) htake))
end
def tRevT (K : PySem.W.Frag) (te : TE) : TE := fun σ H Q => te σ H fun x H1 => ∃ a xs, x = .ref a ∧ ((SqL K H1 a xs ∧ ∀ p, H1 p = none → Q (.ref p) (upd H1 p (.lst xs.reverse))) ∨ (SqT K H1 a xs ∧ ∀ p, H1 p = none → Q (.ref p) (upd H1 p (.tup xs.reverse))))
theorem pe_revT {X : Cx} {e : Expr} {te : TE} {k : Nat} {p1 p2 p3 pos : Pos} (he : PE X e te) : PE X (.Subscript e (.Slice none none (some (.UnaryOp .USub (.Constant (.int 1) k p1) p2)) p3) pos) (tRevT X.K te) := by
  refine ⟨fun pins s σ H Q I h => ?_⟩
  refine Subscript_ (thn (he.run pins s σ H _ I h) fun v s1 ⟨x, H1, I1, r1, q1⟩ => ?_)
  obtain ⟨a, xs, ex, q⟩ := q1
  subst ex
  cases r1
  have hst : PO X (some (.UnaryOp .USub (.Constant (.int 1) k p1) p2)) (tPart (tUn (rU fun i => .int (-i)) (tC (.int 1)))) := po_some (pe_un un_neg pe_int)
  refine wpAny_Slice ?_
  rw [evalPart_none]
  refine wpAny_pure ?_
  refine wpAny_pure ?_
  refine thn (hst.run pins s1 σ H1 (fun o H4 => o = some (-1) ∧ H4 = H1) I1 ⟨1, rfl, -1, rfl, rfl, rfl⟩) fun vs s4 ⟨o, H4, I4, ps, eo, e4⟩ => ?_
  subst eo e4
  have I5 : Inv X pins σ H4 { s4 with heap := s4.heap.push { cls := .type "slice", data := .fields #[.none, .none, vs] } } := I4.kept (t' := s4.toks) fun b ob q => Heap.get?_push_of_some _ q
  show wpAny (model X.prog X.w) X.A (subscriptTail e (.Slice none none (some (.UnaryOp .USub (.Constant (.int 1) k p1) p2)) p3) (.ref a) (.ref s4.heap.objs.size)) (EP X pins σ Q) X.xe { s4 with heap := s4.heap.push { cls := .type "slice", data := .fields #[.none, .none, vs] } }
  rcases q with ⟨hx, q⟩ | ⟨hx, q⟩
  · obtain ⟨its, r, ht, hz⟩ := I5.list hx
    have hlen := r.length
    refine tail_any (ops := [.ref a, .ref s4.heap.objs.size]) ht.isList.typeIs (PySem.slot_list_getitem.lookup) ?_ (by with_unfolding_all rfl)
    refine wpAny_getItem_list_slice ht.isList (Heap.IsSliceOf.new _ .none .none vs) .none .none ps (by decide) ?_ (by rw [List.size_toArray]; omega)
    rw [PySem.W.krv_pick]
    refine ⟨.ref _, _, I5.laid (t' := s4.toks) (o := .lst xs.reverse) (fun b ob q => Heap.get?_push_of_some _ q) (Nat.le_refl _) ?_, rfl, q _ (I5.hok.fresh (Nat.le_refl _))⟩
    exact ⟨by rw [List.length_reverse]; exact hz, _, 0, r.reverse, Heap.get?_push_size _ rfl⟩
  · obtain ⟨its, r, ht, hz⟩ := I5.tuple hx
    have hlen := r.length
    refine tail_any (ops := [.ref a, .ref s4.heap.objs.size]) ht.typeIs (PyProof.Rows.slot_tuple_getitem.lookup) ?_ (by with_unfolding_all rfl)
    refine getItem_tuple_rev ht (Heap.IsSliceOf.new _ .none .none vs) ps ?_ (by rw [List.size_toArray]; omega)
    refine ⟨.ref _, _, I5.laid (t' := s4.toks) (o := .tup xs.reverse) (fun b ob q => Heap.get?_push_of_some _ q) (Nat.le_refl _) ?_, rfl, q _ (I5.hok.fresh (Nat.le_refl _))⟩
    exact ⟨by rw [List.length_reverse]; exact hz, _, r.reverse, IsTup.new _ _⟩
end EVT
namespace EV
open PySem PySem.Spec L2 SX
open PyProof.Rows hiding St
section
variable {X : Cx} {S : ES} {W : WX} {pos p1 p2 p3 : Pos} {e : Expr} {fe : SE} {k : Nat}
def dRev : D → Option D
  | .lst xs => some (.lst xs.reverse)
  | .tup xs => some (.tup xs.reverse)
  | _ => none
theorem Reps.reverse {K : PySem.W.Frag} {T : Nat → Option Addr} {O : Addr → Prop} {H : Hp} : ∀ {vs : List V} {ds : List D}, Reps K T O H vs ds → Reps K T O H vs.reverse ds.reverse
  | [], [], _ => .nil
  | v :: vs, d :: ds, .cons h1 h2 => by
    rw [List.reverse_cons, List.reverse_cons]
    exact h2.reverse.snoc h1
theorem ev_rev (he : EvE X S W e fe) : EvE X S W (.Subscript e (.Slice none none (some (.UnaryOp .USub (.Constant (.int 1) k p1) p2)) p3) pos) (eUn dRev fe) := by
  obtain ⟨t, pt, q⟩ := he
  refine ⟨_, EVT.pe_revT pt, fun C σ H ρ Q E w => ?_⟩
  refine q C σ H ρ _ E ((Wp.bind w).mono (fun _ _ h => h) fun r1 _ w1 v1 H1 E1 A1 R1 => ?_)
  obtain ⟨d, e1, w2⟩ := deref_wp w1
  obtain ⟨d', e2, w3⟩ := opt_wp w2
  have rt := R1.rt E1 e1
  unfold dRev at e2
  split at e2
  · cases e2
    obtain ⟨a, vs, rfl, h1, h2⟩ := rt.lst
    refine ⟨a, vs, rfl, .inl ⟨.inl h1, fun p hp => ?_⟩⟩
    have x : Ex H1 (upd H1 p (.lst vs.reverse)) := Ex.new hp
    exact w3 _ _ (E1.ext x) (A1.trans x.adv) (Rep.lst (OH.fresh E1.omut hp) (.inl upd_same) (h2.reverse.adv x.ra))
  · cases e2
    obtain ⟨a, vs, rfl, h1, h2⟩ := rt.tup
    refine ⟨a, vs, rfl, .inr ⟨h1.sq, fun p hp => ?_⟩⟩
    have x : Ex H1 (upd H1 p (.tup vs.reverse)) := Ex.new hp
    exact w3 _ _ (E1.ext x) (A1.trans x.adv) (Rep.tup (.inl ⟨OH.fresh E1.omut hp, .inl upd_same⟩) (h2.reverse.adv x.ra))
  · cases e2
end
end EV

namespace EV
open PySem PySem.Spec L2 SX
open PyProof.Rows hiding St

/-! ### short words for printed proofs -/
theorem mem_of {l : List Nat} {i : Nat} (h : l.contains i = true) : i ∈ l := List.contains_iff_mem.mp h
theorem nmem_of {l : List Nat} {i : Nat} (h : l.contains i = false) : i ∉ l := fun z => by rw [List.contains_iff_mem.mpr z] at h; cases h
theorem all_not {l m : List Nat} (h : l.all (fun i => !m.contains i) = true) : ∀ v, v ∈ l → v ∉ m := fun v hv z => by
  have := List.all_eq_true.mp h v hv
  rw [List.contains_iff_mem.mpr z] at this
  cases this
theorem all_in {l m : List Nat} (h : l.all (fun i => m.contains i) = true) : ∀ v, v ∈ l → v ∈ m := fun v hv => List.contains_iff_mem.mp (List.all_eq_true.mp h v hv)
theorem frz_of {l m : List Nat} {i : Nat} (h : (l.all (fun j => j == i || m.contains j) && l.contains i && m.all (fun j => l.contains j)) = true) : ∀ j, j ∈ l ↔ j = i ∨ j ∈ m := fun j => by
  rw [Bool.and_eq_true, Bool.and_eq_true] at h
  obtain ⟨⟨h1, h2⟩, h3⟩ := h
  refine ⟨fun hj => ?_, fun hj => ?_⟩
  · have := List.all_eq_true.mp h1 j hj
    rw [Bool.or_eq_true, beq_iff_eq] at this
    exact this.imp id List.contains_iff_mem.mp
  · rcases hj with rfl | hj
    · exact List.contains_iff_mem.mp h2
    · exact List.contains_iff_mem.mp (List.all_eq_true.mp h3 j hj)
theorem fun_of {K : PySem.W.Frag} {x qual : Str} {st : Stmt} {f : Addr} {fd : FuncData} (F : FunD K x qual (defArgs st) (defBody st) (defScope st) [] [] f fd) : Fun K x qual st f fd := by
  obtain ⟨oc, od, dV, kV, doc, pm, an, cdv, ct, osl, rfl, lk, hcd, hD, hK⟩ := F.ex
  rcases hD with ⟨_, rfl⟩ | ⟨e, _⟩
  · exact ⟨⟨oc, od, kV, doc, pm, an, cdv, ct, osl, rfl, lk, hcd⟩, F.kp⟩
  · exact absurd rfl e
theorem cal_of {P : Program} {w : World} {K : PySem.W.Frag} {mg : Str → Option Value} {base : Heap} {S0 : ES} {k : Nat} {x : Str} {F : FS} {f : Addr} {fd : FuncData} {ps : List Str} (h : FnOk P w K mg base (L2.CX P w) k f fd ps (spF K S0 F)) (hm : mg x = some (.ref f)) (hk : PySem.W.keepIn K (.ref f) = true) (hb : Binds K fd ps []) : CalF P w K mg base S0 k x F := ⟨f, fd, ps, h, hm, hk, hb⟩
theorem calF_of {P : Program} {w : World} {K : PySem.W.Frag} {mg : Str → Option Value} {base : Heap} {S0 : ES} {k : Nat} {x : Str} {F : FF} {f : Addr} {fd : FuncData} {ps : List Str} (h : FnOk P w K mg base (L2.CX P w) k f fd ps (spFF K S0 F)) (hm : mg x = some (.ref f)) (hk : PySem.W.keepIn K (.ref f) = true) (hb : Binds K fd ps []) : CalFF P w K mg base S0 k x F := ⟨f, fd, ps, h, hm, hk, hb⟩
/-- a def of which nothing is promised -/
def noF (np : Nat) (bor : List Nat) : FS := ⟨np, bor, fun _ => .stuck⟩
theorem fn_no {P : Program} {w : World} {K : PySem.W.Frag} {mg : Str → Option Value} {base : Heap} {S0 : ES} {k : Nat} {f : Addr} {fd : FuncData} {ps : List Str} {bor : List Nat} : FnOk P w K mg base (L2.CX P w) k f fd ps (spF K S0 (noF ps.length bor)) :=
  ⟨fun vs H Q E h => let ⟨_, _, h, _⟩ := h; h, fun _ _ _ _ _ _ _ _ _ _ _ _ _ h => let ⟨_, _, _, _, _, _, h⟩ := h; h.elim⟩
section
variable {X : Cx} {S S0 : ES} {W : WX} {pos p : Pos} {x : Str}
theorem ev_gint {i : Int} (hg : Gl X x) (h : ∃ t, X.mg x = some (.int i t)) (hd : (x == ("__debug__" : Str)) = false := by decide) : EvE X S W (.Name x pos) (eC (.int i)) := by
  obtain ⟨t, h⟩ := h
  exact ev_glob (v := .int i) hg h ⟨t, rfl⟩ (fun _ _ => .int i) hd
theorem ev_gstr {s : List Nat} (hg : Gl X x) (h : ∃ t, X.mg x = some (.str (SX.S s) t)) (hv : s.all (fun c => decide (c < 1114112)) = true := by decide) (hd : (x == ("__debug__" : Str)) = false := by decide) : EvE X S W (.Name x pos) (eC (.str s)) := by
  obtain ⟨t, h⟩ := h
  exact ev_glob (v := .str (SX.S s)) hg h ⟨t, rfl⟩ (fun _ _ => .str s fun c hc => of_decide_eq_true (List.all_eq_true.mp hv c hc)) hd
theorem ev_gfn {n : Nat} {f : Addr} (hg : Gl X x) (h : X.mg x = some (.ref f)) (hT : S.T n = some f) (hd : (x == ("__debug__" : Str)) = false := by decide) : EvE X S W (.Name x pos) (eC (.fn n)) :=
  ev_glob (v := .ref f) hg h rfl (fun _ _ => .fn hT) hd
def dNeg : D → Option D
  | .int i => some (.int (-i))
  | _ => none
theorem ud_neg : UnD X (unaryOp .USub) dNeg := by
  refine ⟨_, un_neg, fun T O H v1 d1 d Q oh h e w => ?_⟩
  unfold dNeg at e
  split at e
  · cases e
    exact ⟨_, h.int, w _ H (Ex.refl H) (.int _)⟩
  · cases e
/-- a call without arguments (nothing is raised) -/
def noErr0 : Res (D × List D) → Res D
  | .ok o => .ok o.1
  | _ => .stuck
def eCall0 (F : FS) : SE := fun ρ => gd (decide (F.np = 0)) >>= fun _ => noErr0 (F.m []) >>= fun d => .ok (.val d, ρ)
theorem ev_call0 {F : FS} {k j : Nat} (c : CalF X.prog X.w X.K X.mg X.base S0 k x F) (hS : S0.T = S.T ∧ S0.cls = S.cls ∧ S0.fld = S.fld) (hb : F.bor = []) (hr : Room j X.A) (hk : k ≤ j) (hg : Gl X x) (hdb : (x == ("__debug__" : Str)) = false := by decide) :
    EvE X S W (.Call (.Name x p) [] [] pos) (eCall0 F) := by
  obtain ⟨f, fd, ps, G, hm, kp, b⟩ := c.ex
  refine ⟨_, pe_call0 G (hr.mono hk) hg hm kp b .nil passL hdb, fun C σ H ρ Q E w => ?_⟩
  obtain ⟨hn, w1⟩ := gd_wp w
  have hn := of_decide_eq_true hn
  cases q : F.m [] with
  | err c p => rw [q] at w1; exact w1.elim
  | stuck => rw [q] at w1; exact w1.elim
  | ok o =>
    rw [q] at w1
    have ex : ∀ {H'}, FrB F.bor [] H H' → Ex H H' := fun {H'} f a u h => (f.st a u h).resolve_left fun ⟨k, hk, _⟩ => by rw [hb] at hk; cases hk
    refine ⟨C.O S σ ρ, [], hn.symm, E.omut, trivial, fun k l a h => ?_, ?_⟩
    · rw [hb] at h; cases h
    · rw [q]
      intro v H' fr oh' rp _
      rw [hS.1] at rp
      exact w1 v H' (E.ext (ex fr)) (ex fr).adv rp
end
end EV

namespace EV
open PySem PySem.Spec L2 SX
open PyProof.Rows hiding St
theorem hu64 {k : Nat} {A : Around} (h : Room k A) : A.units + 64 < cLine := by have := h.un; omega
theorem hu65 {k : Nat} {A : Around} (h : Room k A) : A.units + 65 < cLine := by have := h.un; omega
theorem hbl_of {bor : List Nat} {n : Nat} (h : bor.all (fun i => decide (i < n)) = true) : ∀ i, i ∈ bor → i < n := fun i hi => of_decide_eq_true (List.all_eq_true.mp h i hi)
theorem ho_of {ow bor : List Nat} {n : Nat} (h : ow.all (fun i => bor.contains i || decide (n ≤ i)) = true) : ∀ i, i ∈ ow → i ∈ bor ∨ n ≤ i := fun i hi => by
  have := List.all_eq_true.mp h i hi
  rw [Bool.or_eq_true, decide_eq_true_eq] at this
  exact this.imp List.contains_iff_mem.mp id
theorem ho_of' {ow : List Nat} {n : Nat} (h : ow.all (fun i => decide (n ≤ i)) = true) : ∀ i, i ∈ ow → n ≤ i := fun i hi => of_decide_eq_true (List.all_eq_true.mp h i hi)
theorem same0 {S0 : ES} {ow fx : List Nat} : S0.T = (ES.mk ow fx S0.T S0.cls S0.fld).T ∧ S0.cls = (ES.mk ow fx S0.T S0.cls S0.fld).cls ∧ S0.fld = (ES.mk ow fx S0.T S0.cls S0.fld).fld := ⟨rfl, rfl, rfl⟩
def gNm (i : Nat) : D → EV.Env → Res EV.Env := fun d ρ => .ok (st ρ i (some d))
theorem eg_nm {X : Cx} {S : ES} {pos : Pos} {i : Nat} {x : Str} (ho : i ∉ S.ow) (hfx : i ∉ S.fx) (hN : X.N.Nodup) (hi : X.N[i]? = some x) (hx : Loc X.env.scope x) (hf : X.fn x = true ∨ X.env.scope.names.lookup x = some .local := by first | exact .inl rfl | exact .inr rfl | assumption) :
    EvG X S [i] (.Name x pos) (gNm i) := eg_name ho hfx hN hi hx hf
end EV

namespace EV
open PySem PySem.Spec L2 SX
open PyProof.Rows hiding St
/-- what raises nothing -/
theorem fn_calm {P : Program} {w : World} {K : PySem.W.Frag} {mg : Str → Option Value} {base : Heap} {k : Nat} {f : Addr} {fd : FuncData} {ps : List Str} {sp : Sp} (F : FnOk P w K mg base (L2.CX P w) k f fd ps sp) : FnOk P w K mg base CX0 k f fd ps (fun vs H Q _ => sp vs H Q fun _ _ _ => False) :=
  ⟨fun vs H Q _ h => F.len vs H Q _ h, fun A outer s H args us vs Q E hr he hb hv h => codeAny_mono (F.run A outer s H args us vs Q _ hr he hb hv h) fun r s' q => by
    cases r with
    | error e =>
      obtain ⟨_, _, _, _, _, _, _, _, _, _, _, _, z⟩ := (show L2.CX P w outer H s (fun _ _ _ => False) e s' from q)
      exact z.elim
    | ok fl => cases fl <;> exact q⟩
theorem sql_shl {K : PySem.W.Frag} {H : Hp} {a : Addr} {vs : List V} (h : SqL K H a vs) : ShL K (fun _ => False) H a vs := h.imp (fun z => ⟨fun q => q, z⟩) fun z => z
/-- the law's own promise -/
theorem law_sp {K : PySem.W.Frag} {S0 : ES} {F : FS} {ns : List Int} {H : Hp} {a : Addr} (hb : F.bor = []) (hn : F.np = 1) (hS : SqL K H a (ns.map V.int)) (h : ∃ o, F.m [.scr ns] = .ok (.bl true, o)) : spF K S0 F [.ref a] H (fun v _ => v = .bl true) fun _ _ _ => False := by
  obtain ⟨o, h⟩ := h
  refine ⟨fun _ => False, [.scr ns], hn.symm, fun a z => z.elim, ?_, fun k l a h => ?_, ?_⟩
  · rw [hb]
    exact ⟨by rw [if_neg (fun z => nomatch z)]; exact .scr (sql_shl hS), trivial⟩
  · rw [hb] at h; cases h
  · rw [h]
    intro v H' _ _ rp _
    cases (show Rep K S0.T (fun _ => False) H' v (.bl true) from rp)
    rfl
end EV

namespace EV
open PySem PySem.Spec L2 SX
open PyProof.Rows hiding St
/-! ### running mirrors by simp -/
variable {ρ : Env}
@[simp] theorem r_ofSome {α : Type} (a : α) : ofOpt (some a) = .ok a := nr rfl
@[simp] theorem r_gt0 (x : Option D) (l : Env) : gt (x :: l) 0 = x := nr rfl
@[simp] theorem r_gtS (x : Option D) (l : Env) (i : Nat) : gt (x :: l) (i + 1) = gt l i := nr rfl
@[simp] theorem r_st0 (x y : Option D) (l : Env) : st (x :: l) 0 y = y :: l := nr rfl
@[simp] theorem r_stS (x y : Option D) (l : Env) (i : Nat) : st (x :: l) (i + 1) y = x :: st l i y := nr rfl
@[simp] theorem r_eC (d : D) : eC d ρ = .ok (.val d, ρ) := nr rfl
@[simp] theorem r_eVar (i : Nat) : eVar i ρ = (ofOpt (gt ρ i) >>= fun d => .ok (.val d, ρ)) := nr rfl
@[simp] theorem r_ePlc (i : Nat) : ePlc i ρ = (ofOpt (gt ρ i) >>= fun _ => .ok (.plc i, ρ)) := nr rfl
@[simp] theorem r_deref (d : D) : deref ρ (.val d) = .ok d := nr rfl
@[simp] theorem r_derefP (i : Nat) : deref ρ (.plc i) = ofOpt (gt ρ i) := nr rfl
@[simp] theorem r_eBin (g : D → D → Option D) (f1 f2 : SE) : eBin g f1 f2 ρ = (f1 ρ >>= fun r1 => f2 r1.2 >>= fun r2 => deref r2.2 r1.1 >>= fun d1 => deref r2.2 r2.1 >>= fun d2 => ofOpt (g d1 d2) >>= fun d => .ok (.val d, r2.2)) := nr rfl
@[simp] theorem r_eUn (g : D → Option D) (f1 : SE) : eUn g f1 ρ = (f1 ρ >>= fun r1 => deref r1.2 r1.1 >>= fun d1 => ofOpt (g d1) >>= fun d => .ok (.val d, r1.2)) := nr rfl
@[simp] theorem r_asB (b : Bool) : asB (.val (.bl b)) = some b := nr rfl
@[simp] theorem r_asI (i : Int) : asI (.val (.int i)) = some i := nr rfl
@[simp] theorem r_tB (f : SE) : tB f ρ = (f ρ >>= fun r => ofOpt (asB r.1) >>= fun k => .ok (k, r.2)) := nr rfl
@[simp] theorem r_tTru (f : SE) : tTru f ρ = (f ρ >>= fun r => deref r.2 r.1 >>= fun d => ofOpt (truth d) >>= fun k => .ok (k, r.2)) := nr rfl
@[simp] theorem r_tNot (f : Env → Res (Bool × Env)) : tNot f ρ = (f ρ >>= fun r => .ok (!r.1, r.2)) := nr rfl
@[simp] theorem r_tAnd (f g : Env → Res (Bool × Env)) : tAnd f g ρ = (f ρ >>= fun r => bif r.1 then g r.2 else .ok (false, r.2)) := nr rfl
@[simp] theorem r_tOr (f g : Env → Res (Bool × Env)) : tOr f g ρ = (f ρ >>= fun r => bif r.1 then .ok (true, r.2) else g r.2) := nr rfl
@[simp] theorem r_eAnd (f g : SE) : eAnd f g ρ = (f ρ >>= fun r => ofOpt (asB r.1) >>= fun k => bif k then g r.2 else .ok (.val (.bl false), r.2)) := nr rfl
@[simp] theorem r_eOr (f g : SE) : eOr f g ρ = (f ρ >>= fun r => ofOpt (asB r.1) >>= fun k => bif k then .ok (.val (.bl true), r.2) else g r.2) := nr rfl
@[simp] theorem r_eNot (f : SE) : eNot f ρ = (f ρ >>= fun r => ofOpt (asB r.1) >>= fun k => .ok (.val (.bl (!k)), r.2)) := nr rfl
@[simp] theorem r_eIf (t : Env → Res (Bool × Env)) (f g : SE) : eIf t f g ρ = (t ρ >>= fun r => bif r.1 then f r.2 else g r.2) := nr rfl
@[simp] theorem r_eChain (g g' : D → D → Option D) (f1 f2 f3 : SE) : eChain g g' f1 f2 f3 ρ = (f1 ρ >>= fun r1 => f2 r1.2 >>= fun r2 => deref r2.2 r1.1 >>= fun d1 => deref r2.2 r2.1 >>= fun d2 => ofOpt (g d1 d2) >>= fun d => ofOpt (asB (.val d)) >>= fun k =>
  bif k then f3 r2.2 >>= fun r3 => deref r3.2 r2.1 >>= fun d2' => deref r3.2 r3.1 >>= fun d3 => ofOpt (g' d2' d3) >>= fun d' => .ok (.val d', r3.2) else .ok (.val (.bl false), r2.2)) := nr rfl
@[simp] theorem r_aNil : aNil ρ = .ok ([], ρ) := nr rfl
@[simp] theorem r_aCons (f : SE) (fs : Env → Res (List DV × Env)) : aCons f fs ρ = (f ρ >>= fun r1 => fs r1.2 >>= fun r2 => .ok (r1.1 :: r2.1, r2.2)) := nr rfl
@[simp] theorem r_vals0 : vals [] = some [] := nr rfl
@[simp] theorem r_valsS (d : D) (r : List DV) : vals (.val d :: r) = (vals r).map (d :: ·) := nr rfl
@[simp] theorem r_eTup (fs : Env → Res (List DV × Env)) : eTup fs ρ = (fs ρ >>= fun r => ofOpt (vals r.1) >>= fun ds => ofOpt (lim ds.length) >>= fun _ => .ok (.val (.tup ds), r.2)) := nr rfl
@[simp] theorem r_fLst (fs : Env → Res (List DV × Env)) : fLst fs ρ = (fs ρ >>= fun r => ofOpt (vals r.1) >>= fun ds => ofOpt (lim ds.length) >>= fun _ => .ok (.lst ds, r.2)) := nr rfl
@[simp] theorem r_eF (f : Env → Res (D × Env)) : eF f ρ = (f ρ >>= fun r => .ok (.val r.1, r.2)) := nr rfl
@[simp] theorem r_fBin (g : D → D → Option D) (f1 f2 : SE) : fBin g f1 f2 ρ = (f1 ρ >>= fun r1 => f2 r1.2 >>= fun r2 => deref r2.2 r1.1 >>= fun d1 => deref r2.2 r2.1 >>= fun d2 => ofOpt (g d1 d2) >>= fun d => .ok (d, r2.2)) := nr rfl
@[simp] theorem r_eBlt (g : List D → Option D) (fs : Env → Res (List DV × Env)) : eBlt g fs ρ = (fs ρ >>= fun r => ofOpt (rdA r.2 r.1) >>= fun ds => ofOpt (g ds) >>= fun d => .ok (.val d, r.2)) := nr rfl
@[simp] theorem r_fBlt (g : List D → Option D) (fs : Env → Res (List DV × Env)) : fBlt g fs ρ = (fs ρ >>= fun r => ofOpt (rdA r.2 r.1) >>= fun ds => ofOpt (g ds) >>= fun d => .ok (d, r.2)) := nr rfl
@[simp] theorem r_rdA0 : rdA ρ [] = some [] := nr rfl
@[simp] theorem r_rdAv (d : D) (r : List DV) : rdA ρ (.val d :: r) = (rdA ρ r).map (d :: ·) := nr rfl
@[simp] theorem r_rdAp (i : Nat) (r : List DV) : rdA ρ (.plc i :: r) = (gt ρ i).bind fun d => (rdA ρ r).map (d :: ·) := nr rfl
@[simp] theorem r_eIsi (k : Nat) (f : SE) : eIsi k f ρ = (f ρ >>= fun r => deref r.2 r.1 >>= fun d => ofOpt (isD k d) >>= fun b => .ok (.val (.bl b), r.2)) := nr rfl
@[simp] theorem r_bNil : bNil ρ = .ok (.nx, ρ) := nr rfl
theorem r_bCons (f g : SS) : bCons f g ρ = (f ρ >>= fun r => match r.1 with | .nx => g r.2 | fl => .ok (fl, r.2)) := nr rfl
@[simp] theorem r_sRet (f : SE) : sRet f ρ = (f ρ >>= fun r => ofOpt (valOf r.1) >>= fun d => .ok (.ret d, r.2)) := nr rfl
@[simp] theorem r_valOf (d : D) : valOf (.val d) = some d := nr rfl
@[simp] theorem r_sExpr (f : SE) : sExpr f ρ = (f ρ >>= fun r => .ok (.nx, r.2)) := nr rfl
@[simp] theorem r_sIf (t : Env → Res (Bool × Env)) (f g : SS) : sIf t f g ρ = (t ρ >>= fun r => bif r.1 then f r.2 else g r.2) := nr rfl
@[simp] theorem r_sSet (i : Nat) (f : SE) : sSet i f ρ = (f ρ >>= fun r => ofOpt (valOf r.1) >>= fun d => .ok (.nx, st r.2 i (some d))) := nr rfl
@[simp] theorem r_sSetF (i : Nat) (f : Env → Res (D × Env)) : sSetF i f ρ = (f ρ >>= fun r => .ok (.nx, st r.2 i (some r.1))) := nr rfl
@[simp] theorem r_gNm (i : Nat) (d : D) : gNm i d ρ = .ok (st ρ i (some d)) := nr rfl
@[simp] theorem r_noErr {α : Type} (a : α) : noErr (.ok a : Res α) = .ok a := nr rfl
@[simp] theorem r_pNone : pNone ρ = .ok (none, ρ) := nr rfl
@[simp] theorem r_pSome (f : SE) : pSome f ρ = (f ρ >>= fun r => ofOpt (asI r.1) >>= fun i => .ok (some i, r.2)) := nr rfl
@[simp] theorem r_eSl (f : SE) (fl fh : Env → Res (Option Int × Env)) : eSl f fl fh ρ = (f ρ >>= fun r => fl r.2 >>= fun l => fh l.2 >>= fun h => deref h.2 r.1 >>= fun d => ofOpt (dSl d l.1 h.1) >>= fun d' => .ok (.val d', h.2)) := nr rfl
@[simp] theorem r_iSeq (f : SE) : iSeq f ρ = (f ρ >>= fun r => ofOpt (seqOf r.1) >>= fun ds => .ok (ds, r.2)) := nr rfl
@[simp] theorem r_iRng (k : List D → Option (List D)) (fs : Env → Res (List DV × Env)) : iRng k fs ρ = (fs ρ >>= fun r => ofOpt (vals r.1) >>= fun ds => ofOpt (k ds) >>= fun xs => .ok (xs, r.2)) := nr rfl
@[simp] theorem r_sFor (fi : Env → Res (List D × Env)) (g : D → Env → Res Env) (B : SS) : sFor fi g B ρ = (fi ρ >>= fun r => forL g B r.1 r.2) := nr rfl
@[simp] theorem r_bFrz (i : Nat) (f : SS) : bFrz i f ρ = (gd (isLive i ρ) >>= fun _ => f ρ >>= fun r => .ok (r.1, st r.2 i none)) := nr rfl
@[simp] theorem r_gd : gd true = .ok () := nr rfl
@[simp] theorem r_sAsgN (g : D → Env → Res Env) (f : SE) : sAsgN g f ρ = (f ρ >>= fun r => ofOpt (valOf r.1) >>= fun d => noErr (g d r.2) >>= fun ρ' => .ok (.nx, ρ')) := nr rfl
@[simp] theorem r_qNil : qNil ρ = .ok ([], ρ) := nr rfl
@[simp] theorem r_qVal (f : SE) (fs : Env → Res (List (Bool × D) × Env)) : qVal f fs ρ = (f ρ >>= fun r1 => ofOpt (valOf r1.1) >>= fun d => fs r1.2 >>= fun r2 => .ok ((false, d) :: r2.1, r2.2)) := nr rfl
@[simp] theorem r_qNew (f : Env → Res (D × Env)) (fs : Env → Res (List (Bool × D) × Env)) : qNew f fs ρ = (f ρ >>= fun r1 => fs r1.2 >>= fun r2 => .ok ((true, r1.1) :: r2.1, r2.2)) := nr rfl
@[simp] theorem r_sPar (is : List (Nat × Bool)) (fq : Env → Res (List (Bool × D) × Env)) : sPar is fq ρ = (fq ρ >>= fun r => ofOpt (stsQ r.2 is r.1) >>= fun ρ' => .ok (.nx, ρ')) := nr rfl
@[simp] theorem r_stsQ0 : stsQ ρ [] [] = some ρ := nr rfl
@[simp] theorem r_stsQS (i : Nat) (b b' : Bool) (d : D) (is : List (Nat × Bool)) (xs : List (Bool × D)) : stsQ ρ ((i, b) :: is) ((b', d) :: xs) = bif b == b' then stsQ (st ρ i (some d)) is xs else none := nr rfl
@[simp] theorem r_gsNil : gsNil [] ρ = .ok ρ := nr rfl
@[simp] theorem r_isInt (i : Int) : isD 0 (.int i) = some true := nr rfl
end EV

namespace EV
open PySem PySem.Spec L2 SX
open PyProof.Rows hiding St
/-! ### tools for plain laws -/
theorem at0 {α : Type} (x : α) (l : List α) : L2.atI (x :: l) 0 = some x := by simp [L2.atI, ixN]
theorem at1 {α : Type} (x y : α) (l : List α) : L2.atI (x :: y :: l) 1 = some y := by
  have : (1 : Int) < (l.length : Int) + 1 + 1 := by omega
  simp [L2.atI, ixN, this]
theorem atN {α : Type} {l : List α} {i : Nat} (h : i < l.length) : L2.atI l (i : Int) = some l[i] := by
  have h1 : (0 : Int) ≤ (i : Int) := by omega
  have h2 : (i : Int) < (l.length : Int) := by omega
  simp [L2.atI, ixN, h1, h2, h]
theorem ix0 {n : Nat} : ixN (n + 1) 0 = some 0 := by simp [ixN]
theorem ix1 {n : Nat} : ixN (n + 2) 1 = some 1 := by
  have : (1 : Int) < (n : Int) + 2 := by omega
  simp [ixN, this]
@[simp] theorem r_lent (i : Nat) (r : List DV) : lentOf (.plc i :: r) = some (i, r) := nr rfl
@[simp] theorem r_noPl0 : noPl [] = true := nr rfl
@[simp] theorem r_noPlv (d : D) (r : List DV) : noPl (.val d :: r) = noPl r := nr rfl
@[simp] theorem r_noPlp (i : Nat) (r : List DV) : noPl (.plc i :: r) = false := nr rfl
@[simp] theorem r_hasPl0 (i : Nat) : hasPl i [] = false := nr rfl
@[simp] theorem r_hasPlv (i : Nat) (d : D) (r : List DV) : hasPl i (.val d :: r) = hasPl i r := nr rfl
@[simp] theorem r_hasPlp (i j : Nat) (r : List DV) : hasPl i (.plc j :: r) = (i == j || hasPl i r) := nr rfl
@[simp] theorem r_shieldT (r : Res (D × List D)) : shield true r = r := by cases r <;> rfl
@[simp] theorem r_shieldOk (b : Bool) (o : D × List D) : shield b (.ok o) = bif b || o.1.flat then .ok o else .stuck := nr rfl
@[simp] theorem r_okLent (b : Bool) (d : D) (r : List D) : okLent b (d :: r) = bif b || d.flatC then some d else none := nr rfl
theorem r_eCall (F : FS) (fs : Env → Res (List DV × Env)) (ρ : Env) : eCall F fs ρ = (fs ρ >>= fun r => ofOpt (rdA r.2 r.1) >>= fun ds => gd (decide (ds.length = F.np)) >>= fun _ => shield (noPl r.1) (F.m ds) >>= fun o => .ok (.val o.1, r.2)) := nr rfl
theorem r_eCallC (F : FS) (fs : Env → Res (List DV × Env)) (ρ : Env) : eCallC F fs ρ = (fs ρ >>= fun r => ofOpt (lentOf r.1) >>= fun l => ofOpt (gt r.2 l.1) >>= fun d0 => ofOpt (rdA r.2 l.2) >>= fun ds => gd (decide (ds.length + 1 = F.np)) >>= fun _ => gd (!hasPl l.1 l.2) >>= fun _ =>
  shield (noPl l.2) (F.m (d0 :: ds)) >>= fun o => ofOpt (okLent (noPl l.2) o.2) >>= fun d => .ok (.val o.1, st r.2 l.1 (some d))) := rfl
/-- what a def comes to -/
def Val (F : FS) (ds : List D) (d : D) : Prop := ∃ o, F.m ds = .ok (d, o)

/-! ### the slots but some -/
structure Same (vs : List Nat) (ρ ρ' : Env) : Prop where
  len : ρ'.length = ρ.length
  at_ : ∀ j, j ∉ vs → gt ρ' j = gt ρ j
theorem Same.refl (vs : List Nat) (ρ : Env) : Same vs ρ ρ := ⟨rfl, fun _ _ => rfl⟩
theorem Same.trans {vs : List Nat} {a b c : Env} (h : Same vs a b) (k : Same vs b c) : Same vs a c := ⟨k.len.trans h.len, fun j hj => (k.at_ j hj).trans (h.at_ j hj)⟩
theorem env_ext : ∀ {a b : Env}, a.length = b.length → (∀ j, gt a j = gt b j) → a = b
  | [], [], _, _ => rfl
  | [], _ :: _, h, _ => by simp at h
  | _ :: _, [], h, _ => by simp at h
  | x :: a, y :: b, h, k => by
    have h0 : x = y := k 0
    rw [h0, env_ext (a := a) (b := b) (by simpa using h) fun j => k (j + 1)]
theorem Same.wipe {vs : List Nat} {a b : Env} (h : Same vs a b) : wipeE b vs = wipeE a vs := env_ext (by rw [wipeE_length, wipeE_length, h.len]) fun j => by
  rw [gt_wipeE, gt_wipeE]
  split
  · rfl
  · exact h.at_ j (by assumption)
theorem Same.rest {vs : List Nat} {a b : Env} (h : Same vs a b) : restE a b vs = a := env_ext (by rw [restE_length, h.len]) fun j => by
  rw [gt_restE h.len]
  split
  · rfl
  · exact h.at_ j (by assumption)
theorem same_wipe (vs : List Nat) (ρ : Env) : Same vs ρ (wipeE ρ vs) := ⟨wipeE_length ρ vs, fun j hj => by rw [gt_wipeE, if_neg hj]⟩
theorem Same.st {vs : List Nat} {a b : Env} {i : Nat} {d : Option D} (h : Same vs a b) (hi : i ∈ vs) : Same vs a (EV.st b i d) := ⟨by rw [st_length]; exact h.len, fun j hj => by
  rw [gt_st_ne b i j d fun e => hj (e ▸ hi)]
  exact h.at_ j hj⟩

/-! ### comprehensions that change nothing -/
theorem lcL_pure {α : Type} {vs : List Nat} {g : D → Env → Res Env} {cnd : Env → Res (Bool × Env)} {elt : SE} {ρ0 : Env} {e : α → D} {p : α → Bool} {f : α → D} : ∀ (ts : List α) (ρ : Env), Same vs ρ0 ρ →
    (∀ t, t ∈ ts → ∃ ρ1, g (e t) (wipeE ρ0 vs) = .ok ρ1 ∧ Same vs ρ0 ρ1 ∧ cnd ρ1 = .ok (p t, ρ1) ∧ (p t = true → elt ρ1 = .ok (.val (f t), ρ1))) →
    ∃ ρ', Same vs ρ0 ρ' ∧ lcL vs g cnd elt (ts.map e) ρ = .ok ((ts.filter p).map f, ρ')
  | [], ρ, s, _ => ⟨ρ, s, rfl⟩
  | t :: ts, ρ, s, h => by
    obtain ⟨ρ1, h1, s1, h2, h3⟩ := h t List.mem_cons_self
    obtain ⟨ρ', s', h4⟩ := lcL_pure ts ρ1 s1 fun u hu => h u (List.mem_cons_of_mem _ hu)
    refine ⟨ρ', s', ?_⟩
    show (noErr (g (e t) (wipeE ρ vs)) >>= fun ρ1 => noErr (cnd ρ1) >>= fun r => bif r.1 then noErr (elt r.2) >>= fun r2 => ofOpt (valOf r2.1) >>= fun x => lcL vs g cnd elt (ts.map e) r2.2 >>= fun r3 => .ok (x :: r3.1, r3.2) else lcL vs g cnd elt (ts.map e) r.2) = _
    rw [s.wipe, h1]
    simp only [r_noErr, ok_bind]
    rw [h2]
    simp only [r_noErr, ok_bind]
    cases q : p t with
    | true =>
      rw [h3 q]
      simp only [cond_true, r_noErr, ok_bind, r_valOf, r_ofSome, h4, List.filter_cons, q, if_true, List.map_cons]
    | false =>
      simp [cond_false, h4, List.filter_cons, q]
theorem fLc_pure {α : Type} {vs : List Nat} {fi : Env → Res (List D × Env)} {g : D → Env → Res Env} {cnd : Env → Res (Bool × Env)} {elt : SE} {ρ : Env} (ts : List α) (e : α → D) (p : α → Bool) (f : α → D) (hi : fi ρ = .ok (ts.map e, ρ)) (hl : ts.length ≤ LIM)
    (h : ∀ t, t ∈ ts → ∃ ρ1, g (e t) (wipeE ρ vs) = .ok ρ1 ∧ Same vs ρ ρ1 ∧ cnd ρ1 = .ok (p t, ρ1) ∧ (p t = true → elt ρ1 = .ok (.val (f t), ρ1))) : fLc vs fi g cnd elt ρ = .ok (.lst ((ts.filter p).map f), ρ) := by
  obtain ⟨ρ', s', h4⟩ := lcL_pure (f := f) ts ρ (Same.refl _ _) h
  unfold fLc
  rw [hi]
  have hl' : lim (ts.map e).length = some () := by
    unfold lim
    rw [List.length_map, if_pos hl]
  simp only [ok_bind, hl', r_ofSome, h4, s'.rest]
theorem filter_yes {α : Type} (ts : List α) : ts.filter (fun _ => true) = ts := List.filter_eq_self.mpr fun _ _ => rfl
/-- .. without a condition -/
theorem fLc_map {α : Type} {vs : List Nat} {fi : Env → Res (List D × Env)} {g : D → Env → Res Env} {elt : SE} {ρ : Env} (ts : List α) (e : α → D) (f : α → D) (hi : fi ρ = .ok (ts.map e, ρ)) (hl : ts.length ≤ LIM)
    (h : ∀ t, t ∈ ts → ∃ ρ1, g (e t) (wipeE ρ vs) = .ok ρ1 ∧ Same vs ρ ρ1 ∧ elt ρ1 = .ok (.val (f t), ρ1)) : fLc vs fi g cYes elt ρ = .ok (.lst (ts.map f), ρ) := by
  have := fLc_pure (cnd := cYes) ts e (fun _ => true) f hi hl fun t ht => let ⟨ρ1, a, b, c⟩ := h t ht; ⟨ρ1, a, b, rfl, fun _ => c⟩
  rw [filter_yes] at this
  exact this
/-! ### comprehensions that draw -/
theorem lcL_st {α : Type} {vs : List Nat} {g : D → Env → Res Env} {elt : SE} {e : α → D} {I : Env → Prop} {P : D → Prop} : ∀ (ts : List α) (ρ : Env), I ρ →
    (∀ t, t ∈ ts → ∀ ρ, I ρ → ∃ ρ1 d ρ2, g (e t) (wipeE ρ vs) = .ok ρ1 ∧ elt ρ1 = .ok (.val d, ρ2) ∧ P d ∧ I ρ2) →
    ∃ ds ρ', lcL vs g cYes elt (ts.map e) ρ = .ok (ds, ρ') ∧ ds.length = ts.length ∧ (∀ d, d ∈ ds → P d) ∧ I ρ'
  | [], ρ, i, _ => ⟨[], ρ, rfl, rfl, (fun _ h => (nomatch h)), i⟩
  | t :: ts, ρ, i, h => by
    obtain ⟨ρ1, d, ρ2, h1, h2, hp, i2⟩ := h t List.mem_cons_self ρ i
    obtain ⟨ds, ρ', h4, hl, hps, i'⟩ := lcL_st ts ρ2 i2 fun u hu => h u (List.mem_cons_of_mem _ hu)
    refine ⟨d :: ds, ρ', ?_, congrArg (· + 1) hl, fun x hx => (List.mem_cons.mp hx).elim (fun z => z ▸ hp) (hps x), i'⟩
    show (noErr (g (e t) (wipeE ρ vs)) >>= fun ρ1 => noErr (cYes ρ1) >>= fun r => bif r.1 then noErr (elt r.2) >>= fun r2 => ofOpt (valOf r2.1) >>= fun x => lcL vs g cYes elt (ts.map e) r2.2 >>= fun r3 => .ok (x :: r3.1, r3.2) else lcL vs g cYes elt (ts.map e) r.2) = _
    rw [h1]
    simp only [r_noErr, ok_bind, cYes, cond_true, h2, r_valOf, r_ofSome, h4]

/-! ### loops -/
theorem forL_w {α : Type} {g : D → Env → Res Env} {B : SS} {e : α → D} {I : List α → Env → Prop} {Q : Fl × Env → Prop} : ∀ (ts : List α) (ρ : Env), I ts ρ →
    (∀ t rest ρ, I (t :: rest) ρ → ∃ ρ1 fl ρ2, g (e t) ρ = .ok ρ1 ∧ B ρ1 = .ok (fl, ρ2) ∧ match fl with | .nx => I rest ρ2 | .cont => I rest ρ2 | .brk => Q (.nx, ρ2) | .ret v => Q (.ret v, ρ2)) →
    (∀ ρ, I [] ρ → Q (.nx, ρ)) → ∃ r, forL g B (ts.map e) ρ = .ok r ∧ Q r
  | [], ρ, i, _, hf => ⟨_, rfl, hf ρ i⟩
  | t :: ts, ρ, i, h, hf => by
    obtain ⟨ρ1, fl, ρ2, h1, h2, h3⟩ := h t ts ρ i
    have e0 : forL g B ((t :: ts).map e) ρ = (noErr (g (e t) ρ) >>= fun ρ1 => B ρ1 >>= fun r => match r.1 with
      | .nx => forL g B (ts.map e) r.2
      | .cont => forL g B (ts.map e) r.2
      | .brk => .ok (.nx, r.2)
      | .ret v => .ok (.ret v, r.2)) := rfl
    rw [e0, h1]
    simp only [r_noErr, ok_bind, h2]
    cases fl with
    | nx => exact forL_w ts ρ2 h3 h hf
    | cont => exact forL_w ts ρ2 h3 h hf
    | brk => exact ⟨_, rfl, h3⟩
    | ret v => exact ⟨_, rfl, h3⟩
/-- a loop as a fold -/
theorem forL_nil {g : D → Env → Res Env} {B : SS} {ρ : Env} : forL g B [] ρ = .ok (.nx, ρ) := rfl
theorem forL_next {g : D → Env → Res Env} {B : SS} {ρ ρ1 ρ2 : Env} {d : D} {ds : List D} (h1 : g d ρ = .ok ρ1) (h2 : B ρ1 = .ok (.nx, ρ2)) : forL g B (d :: ds) ρ = forL g B ds ρ2 := by
  show (noErr (g d ρ) >>= fun ρ1 => B ρ1 >>= fun r => match r.1 with
      | .nx => forL g B ds r.2
      | .cont => forL g B ds r.2
      | .brk => .ok (.nx, r.2)
      | .ret v => .ok (.ret v, r.2)) = _
  rw [h1]
  simp only [r_noErr, ok_bind, h2]
/-! ### operators on data, by kind -/
@[simp] theorem r_lim {n : Nat} (h : n ≤ 16777216) : lim n = some () := if_pos h
@[simp] theorem r_addI (i j : Int) : dAdd (.int i) (.int j) = some (.int (i + j)) := nr rfl
theorem r_addS {a b : List Nat} (h : a.length + b.length ≤ 16777216) : dAdd (.str a) (.str b) = some (.str (a ++ b)) := if_pos h
theorem r_addT {a b : List D} (h : a.length + b.length ≤ 16777216) : dAdd (.tup a) (.tup b) = some (.tup (a ++ b)) := if_pos h
theorem r_addL {a b : List D} (h : a.length + b.length ≤ 16777216) : dAdd (.lst a) (.lst b) = some (.lst (a ++ b)) := if_pos h
@[simp] theorem r_subI (i j : Int) : dSub (.int i) (.int j) = some (.int (i - j)) := nr rfl
theorem r_mulI {i j : Int} (h : L2.CMul i j) : dMul (.int i) (.int j) = some (.int (i * j)) := if_pos h
theorem r_divI {i j : Int} (h : L2.CDiv i j) : dDiv (.int i) (.int j) = some (.int (i / j)) := if_pos h
@[simp] theorem r_modI {i j : Int} (h : 0 < j) : dMod (.int i) (.int j) = some (.int (i % j)) := if_pos h
@[simp] theorem r_ltI (i j : Int) : dLT (.int i) (.int j) = some (.bl (decide (i < j))) := nr rfl
@[simp] theorem r_gtI (i j : Int) : dGT (.int i) (.int j) = some (.bl (decide (j < i))) := nr rfl
@[simp] theorem r_leI (i j : Int) : dLE (.int i) (.int j) = some (.bl (decide (i ≤ j))) := nr rfl
@[simp] theorem r_geI (i j : Int) : dGE (.int i) (.int j) = some (.bl (decide (j ≤ i))) := nr rfl
@[simp] theorem r_negI (i : Int) : dNeg (.int i) = some (.int (-i)) := nr rfl
@[simp] theorem r_ixL (xs : List D) (i : Int) : dIx (.lst xs) (.int i) = L2.atI xs i := nr rfl
@[simp] theorem r_ixT (xs : List D) (i : Int) : dIx (.tup xs) (.int i) = L2.atI xs i := nr rfl
@[simp] theorem r_lenL (xs : List D) : bLen [.lst xs] = some (.int xs.length) := nr rfl
@[simp] theorem r_lenT (xs : List D) : bLen [.tup xs] = some (.int xs.length) := nr rfl
theorem r_lenS {s : List Nat} (h : s.length ≤ 16777216) : bLen [.str s] = some (.int s.length) := if_pos h
@[simp] theorem r_intI (i : Int) : bInt [.int i] = some (.int i) := nr rfl
@[simp] theorem r_abs (i : Int) : bAbs [.int i] = some (.int (if i < 0 then -i else i)) := nr rfl
@[simp] theorem r_max2 (i j : Int) : bMax2 [.int i, .int j] = some (.int (if j > i then j else i)) := nr rfl
@[simp] theorem r_min2 (i j : Int) : bMin2 [.int i, .int j] = some (.int (if j < i then j else i)) := nr rfl
@[simp] theorem r_tupL (xs : List D) : bTup [.lst xs] = some (.tup xs) := nr rfl
@[simp] theorem r_tupT (xs : List D) : bTup [.tup xs] = some (.tup xs) := nr rfl
@[simp] theorem r_lstL (xs : List D) : bLst [.lst xs] = some (.lst xs) := nr rfl
@[simp] theorem r_lstT (xs : List D) : bLst [.tup xs] = some (.lst xs) := nr rfl
@[simp] theorem r_lstS (ns : List Int) : bLst [.scr ns] = some (.lst (ns.map D.int)) := nr rfl
@[simp] theorem r_trB (b : Bool) : truth (.bl b) = some b := nr rfl
@[simp] theorem r_trI (i : Int) : truth (.int i) = some (i != 0) := nr rfl
@[simp] theorem r_trN : truth .non = some false := nr rfl
@[simp] theorem r_isNN : dIs false .non .non = some (.bl true) := nr rfl
@[simp] theorem r_seqL (xs : List D) : seqOf (.val (.lst xs)) = some xs := nr rfl
@[simp] theorem r_seqT (xs : List D) : seqOf (.val (.tup xs)) = some xs := nr rfl
@[simp] theorem r_seqS (s : List Nat) : seqOf (.val (.str s)) = some (signs s) := nr rfl
@[simp] theorem r_slL (xs : List D) (l h : Option Int) : dSl (.lst xs) l h = some (.lst (cut xs l h)) := nr rfl
@[simp] theorem r_slT (xs : List D) (l h : Option Int) : dSl (.tup xs) l h = some (.tup (cut xs l h)) := nr rfl
@[simp] theorem r_revL (xs : List D) : dRev (.lst xs) = some (.lst xs.reverse) := nr rfl
@[simp] theorem r_revT (xs : List D) : dRev (.tup xs) = some (.tup xs.reverse) := nr rfl
@[simp] theorem r_plcOf (i : Nat) : plcOf (.plc i) = some i := nr rfl
@[simp] theorem r_outB (np : Nat) (d : D) (ρ : Env) : outB np [] d ρ = .ok (d, (ρ.take np).map fun o => o.getD .non) := nr rfl
@[simp] theorem r_outB1 (np : Nat) (d x : D) (ρ : Env) : outB np [0] d (some x :: ρ) = .ok (d, ((some x :: ρ).take np).map fun o => o.getD .non) := nr rfl
@[simp] theorem r_seqLst (xs : List D) : eApp.seqLst (.lst xs) = some () := nr rfl
theorem r_addTo {d : D} {ds : List D} (h : ds.length < 16777216) : addTo d (.lst ds) = some (.lst (ds ++ [d])) := if_pos h
theorem r_eApp (f g : SE) (ρ : Env) : eApp f g ρ = (f ρ >>= fun r => ofOpt (plcOf r.1) >>= fun i => ofOpt (gt r.2 i) >>= fun d0 => ofOpt (eApp.seqLst d0) >>= fun _ => g r.2 >>= fun r2 => ofOpt (valOf r2.1) >>= fun d => ofOpt (gt r2.2 i) >>= fun l => ofOpt (addTo d l) >>= fun l' => .ok (.val .non, st r2.2 i (some l'))) := nr rfl
@[simp] theorem r_sStL (f o i : SE) (ρ : Env) : sStL f o i ρ = (f ρ >>= fun r => ofOpt (valOf r.1) >>= fun d => o r.2 >>= fun r1 => ofOpt (plcOf r1.1) >>= fun s => i r1.2 >>= fun r2 => ofOpt (asI r2.1) >>= fun k => ofOpt (gt r2.2 s) >>= fun l => ofOpt (setAt k d l) >>= fun l' => .ok (.nx, st r2.2 s (some l'))) := nr rfl
theorem r_rng1 {j : Int} (h0 : 0 ≤ j) (h1 : j < 1000000) : rng1 [.int j] = some ((List.range j.toNat).map fun (i : Nat) => D.int i) := by
  have h : rin j = true := by
    unfold rin
    rw [decide_eq_true (by omega), decide_eq_true (by omega)]
    rfl
  show (bif rin j then some (rng 0 1 j.toNat) else none) = _
  rw [h]
  simp [rng]
theorem r_runB (n np : Nat) (bor : List Nat) (B : SS) (ds : List D) : runB n np bor B ds = (B (start0 n ds) >>= fun r => match r.1 with | .nx => outB np bor .non r.2 | .ret d => outB np bor d r.2 | _ => .stuck) := nr rfl
end EV

namespace LK80
open PySem PySem.Spec L2 SX EV
open PyProof.Rows hiding St
abbrev Env := EV.Env
def top (i : Nat) : Stmt := PySem.Challenge.pw_clothholds_k80_whole_tablets_and_what_th.main.body.getD i (.Pass ⟨0, 0, 0, 0⟩)
def S0 (K : PySem.W.Frag) : ES := ⟨[], [], fun _ => none, fun _ => .none, fun _ => none⟩
abbrev FnP (K : PySem.W.Frag) (x : Str) (i : Nat) (f : Addr) (fd : FuncData) : Prop := FunD K x x (defArgs (top i)) (defBody (top i)) (defScope (top i)) [] [] f fd
structure G (K : PySem.W.Frag) (mg : Str → Option Value) : Prop where
  f__law_cup : ∃ fd, FnP K "_law_cup" 36 (He.ga K "_law_cup") fd
  g__law_cup : mg "_law_cup" = some (.ref (He.ga K "_law_cup"))
  f__law_roll : ∃ fd, FnP K "_law_roll" 37 (He.ga K "_law_roll") fd
  g__law_roll : mg "_law_roll" = some (.ref (He.ga K "_law_roll"))
  f_need : ∃ fd, FnP K "need" 19 (He.ga K "need") fd
  g_need : mg "need" = some (.ref (He.ga K "need"))
  f_is_tuple_of : ∃ fd, FnP K "is_tuple_of" 7 (He.ga K "is_tuple_of") fd
  g_is_tuple_of : mg "is_tuple_of" = some (.ref (He.ga K "is_tuple_of"))
  f_is_word : ∃ fd, FnP K "is_word" 8 (He.ga K "is_word") fd
  g_is_word : mg "is_word" = some (.ref (He.ga K "is_word"))
  f_is_name : ∃ fd, FnP K "is_name" 9 (He.ga K "is_name") fd
  g_is_name : mg "is_name" = some (.ref (He.ga K "is_name"))
  f_fits_tablet : ∃ fd, FnP K "fits_tablet" 14 (He.ga K "fits_tablet") fd
  g_fits_tablet : mg "fits_tablet" = some (.ref (He.ga K "fits_tablet"))
  f_is_whole : ∃ fd, FnP K "is_whole" 6 (He.ga K "is_whole") fd
  g_is_whole : mg "is_whole" = some (.ref (He.ga K "is_whole"))
  f_is_turn : ∃ fd, FnP K "is_turn" 16 (He.ga K "is_turn") fd
  g_is_turn : mg "is_turn" = some (.ref (He.ga K "is_turn"))
  f_fits_turns : ∃ fd, FnP K "fits_turns" 17 (He.ga K "fits_turns") fd
  g_fits_turns : mg "fits_turns" = some (.ref (He.ga K "fits_turns"))
  f_shows : ∃ fd, FnP K "shows" 20 (He.ga K "shows") fd
  g_shows : mg "shows" = some (.ref (He.ga K "shows"))
  f_holes_of : ∃ fd, FnP K "holes_of" 21 (He.ga K "holes_of") fd
  g_holes_of : mg "holes_of" = some (.ref (He.ga K "holes_of"))
  f_column_of : ∃ fd, FnP K "column_of" 26 (He.ga K "column_of") fd
  g_column_of : mg "column_of" = some (.ref (He.ga K "column_of"))
  f_is_tablet : ∃ fd, FnP K "is_tablet" 23 (He.ga K "is_tablet") fd
  g_is_tablet : mg "is_tablet" = some (.ref (He.ga K "is_tablet"))
  f_top_of : ∃ fd, FnP K "top_of" 27 (He.ga K "top_of") fd
  g_top_of : mg "top_of" = some (.ref (He.ga K "top_of"))
  f_twist_of : ∃ fd, FnP K "twist_of" 28 (He.ga K "twist_of") fd
  g_twist_of : mg "twist_of" = some (.ref (He.ga K "twist_of"))
  f__law_sort : ∃ fd, FnP K "_law_sort" 39 (He.ga K "_law_sort") fd
  g__law_sort : mg "_law_sort" = some (.ref (He.ga K "_law_sort"))
  f__law_like : ∃ fd, FnP K "_law_like" 40 (He.ga K "_law_like") fd
  g__law_like : mg "_law_like" = some (.ref (He.ga K "_law_like"))
  f_fits_pack : ∃ fd, FnP K "fits_pack" 15 (He.ga K "fits_pack") fd
  g_fits_pack : mg "fits_pack" = some (.ref (He.ga K "fits_pack"))
  f_fits_rows : ∃ fd, FnP K "fits_rows" 18 (He.ga K "fits_rows") fd
  g_fits_rows : mg "fits_rows" = some (.ref (He.ga K "fits_rows"))
  f_turns_in : ∃ fd, FnP K "turns_in" 22 (He.ga K "turns_in") fd
  g_turns_in : mg "turns_in" = some (.ref (He.ga K "turns_in"))
  f_shown_picture : ∃ fd, FnP K "shown_picture" 32 (He.ga K "shown_picture") fd
  g_shown_picture : mg "shown_picture" = some (.ref (He.ga K "shown_picture"))
  f_leans_of : ∃ fd, FnP K "leans_of" 33 (He.ga K "leans_of") fd
  g_leans_of : mg "leans_of" = some (.ref (He.ga K "leans_of"))
  f_twists_of : ∃ fd, FnP K "twists_of" 34 (He.ga K "twists_of") fd
  g_twists_of : mg "twists_of" = some (.ref (He.ga K "twists_of"))
  f_changes_in : ∃ fd, FnP K "changes_in" 29 (He.ga K "changes_in") fd
  g_changes_in : mg "changes_in" = some (.ref (He.ga K "changes_in"))
  f_changes_of : ∃ fd, FnP K "changes_of" 30 (He.ga K "changes_of") fd
  g_changes_of : mg "changes_of" = some (.ref (He.ga K "changes_of"))
  f_float_of : ∃ fd, FnP K "float_of" 31 (He.ga K "float_of") fd
  g_float_of : mg "float_of" = some (.ref (He.ga K "float_of"))
  f__law_written : ∃ fd, FnP K "_law_written" 53 (He.ga K "_law_written") fd
  g__law_written : mg "_law_written" = some (.ref (He.ga K "_law_written"))
  f_are_rows : ∃ fd, FnP K "are_rows" 25 (He.ga K "are_rows") fd
  g_are_rows : mg "are_rows" = some (.ref (He.ga K "are_rows"))
  f__law_written_right : ∃ fd, FnP K "_law_written_right" 54 (He.ga K "_law_written_right") fd
  g__law_written_right : mg "_law_written_right" = some (.ref (He.ga K "_law_written_right"))
  f__law_some : ∃ fd, FnP K "_law_some" 38 (He.ga K "_law_some") fd
  g__law_some : mg "_law_some" = some (.ref (He.ga K "_law_some"))
  f__law_name : ∃ fd, FnP K "_law_name" 41 (He.ga K "_law_name") fd
  g__law_name : mg "_law_name" = some (.ref (He.ga K "_law_name"))
  f__law_names : ∃ fd, FnP K "_law_names" 42 (He.ga K "_law_names") fd
  g__law_names : mg "_law_names" = some (.ref (He.ga K "_law_names"))
  f__law_holes : ∃ fd, FnP K "_law_holes" 44 (He.ga K "_law_holes") fd
  g__law_holes : mg "_law_holes" = some (.ref (He.ga K "_law_holes"))
  f__law_near : ∃ fd, FnP K "_law_near" 49 (He.ga K "_law_near") fd
  g__law_near : mg "_law_near" = some (.ref (He.ga K "_law_near"))
  f_is_pack : ∃ fd, FnP K "is_pack" 24 (He.ga K "is_pack") fd
  g_is_pack : mg "is_pack" = some (.ref (He.ga K "is_pack"))
  f__law_is_name : ∃ fd, FnP K "_law_is_name" 45 (He.ga K "_law_is_name") fd
  g__law_is_name : mg "_law_is_name" = some (.ref (He.ga K "_law_is_name"))
  f__law_is_tablet : ∃ fd, FnP K "_law_is_tablet" 46 (He.ga K "_law_is_tablet") fd
  g__law_is_tablet : mg "_law_is_tablet" = some (.ref (He.ga K "_law_is_tablet"))
  f__law_is_pack : ∃ fd, FnP K "_law_is_pack" 47 (He.ga K "_law_is_pack") fd
  g__law_is_pack : mg "_law_is_pack" = some (.ref (He.ga K "_law_is_pack"))
  f__law_near_rows : ∃ fd, FnP K "_law_near_rows" 50 (He.ga K "_law_near_rows") fd
  g__law_near_rows : mg "_law_near_rows" = some (.ref (He.ga K "_law_near_rows"))
  f__law_are_rows : ∃ fd, FnP K "_law_are_rows" 48 (He.ga K "_law_are_rows") fd
  g__law_are_rows : mg "_law_are_rows" = some (.ref (He.ga K "_law_are_rows"))
  f__law_float : ∃ fd, FnP K "_law_float" 51 (He.ga K "_law_float") fd
  g__law_float : mg "_law_float" = some (.ref (He.ga K "_law_float"))
  f__law_right : ∃ fd, FnP K "_law_right" 52 (He.ga K "_law_right") fd
  g__law_right : mg "_law_right" = some (.ref (He.ga K "_law_right"))
  f__law_tablet : ∃ fd, FnP K "_law_tablet" 43 (He.ga K "_law_tablet") fd
  g__law_tablet : mg "_law_tablet" = some (.ref (He.ga K "_law_tablet"))
  f_law : ∃ fd, FnP K "law" 55 (He.ga K "law") fd
  g_law : mg "law" = some (.ref (He.ga K "law"))
  b_abs : mg "abs" = none
  b_all : mg "all" = none
  b_bool : mg "bool" = none
  b_enumerate : mg "enumerate" = none
  b_int : mg "int" = none
  b_isinstance : mg "isinstance" = none
  b_len : mg "len" = none
  b_list : mg "list" = none
  b_max : mg "max" = none
  b_min : mg "min" = none
  b_range : mg "range" = none
  b_sorted : mg "sorted" = none
  b_str : mg "str" = none
  b_sum : mg "sum" = none
  b_tuple : mg "tuple" = none
  b_zip : mg "zip" = none
  i_HOLES : ∃ t, mg "HOLES" = some (.int 4 t)
  i_NAME_SIGNS : ∃ t, mg "NAME_SIGNS" = some (.int 12 t)
  i_ROWS : ∃ t, mg "ROWS" = some (.int 40 t)
  i_TABLETS : ∃ t, mg "TABLETS" = some (.int 8 t)
  s_LETTERS : ∃ t, mg "LETTERS" = some (.str (SX.S [97, 98, 99, 100, 101, 102, 103, 104, 105, 106, 107, 108, 109, 110, 111, 112, 113, 114, 115, 116, 117, 118, 119, 120, 121, 122]) t)
section
variable {P : Program} {w : World} {K : PySem.W.Frag} {mg : Str → Option Value} {base : Heap}
/-! _law_cup -/
abbrev N__law_cup : List Str := ["script", "cell"]
abbrev ps__law_cup : List Str := ["script"]
theorem sc__law_cup : FnScope N__law_cup ps__law_cup (defScope (top 36)) := ⟨rfl, rfl, rfl, by decide +kernel, rfl, by decide +kernel, by decide +kernel⟩
def B__law_cup : Env → Res (D × Env) :=
  (fSeq (sSet 1 (eBlt bAbs (aCons (eBin dIx (eBin dAdd (eF (fBlt bLst (aCons (eVar 0) aNil))) (eF (fLst (aCons (eC (.int 0)) aNil)))) (eC (.int 0))) aNil))) (fLst (aCons (eIf (tB (eBin dGE (eVar 1) (eBin dPow (eC (.int 10)) (eC (.int 18))))) (eBin dDiv (eVar 1) (eC (.int 73))) (eC (.int 0))) (aCons (eBin dAdd (eBin dMod (eBlt bInt (aCons (eBin dAdd (eBin dMul (eVar 1) (eC (.int 283))) (eC (.int 3907))) aNil)) (eC (.int 2077503167))) (eC (.int 167))) aNil))))
def mf__law_cup : FF := ⟨ps__law_cup.length, runBF N__law_cup.length B__law_cup⟩
@[simp] theorem np__law_cup : mf__law_cup.np = 1 := nr rfl
theorem me__law_cup (ds : List D) : mf__law_cup.m ds = runBF 2 B__law_cup ds := nr rfl
theorem cf__law_cup (g : G K mg) : CalFF P w K mg base (S0 K) 1 "_law_cup" mf__law_cup := by
  obtain ⟨fd, F⟩ := g.f__law_cup
  refine calF_of (fn_evF (ow := []) (B := B__law_cup) (fun_of F) sc__law_cup (ho_of' rfl) fun cdv A outer s H E hr tk => ?_) g.g__law_cup F.kp (F.bindsN fun _ _ _ _ _ _ us hl => match us, hl with | [_], _ => rfl)
  exact (ef_seq (es_set (i := 1) (nmem_of rfl) (nmem_of rfl) sc__law_cup.nd rfl (Or.inl rfl) (ev_blt cd_abs rfl g.b_abs (by decide +kernel) (ea_cons (ev_ix (fun _ _ => rfl) ix_all (ev_bin od_add (ev_f (ef_ty cf_lst rfl g.b_list (by decide +kernel) (ea_cons (ev_var (i := 0) (nmem_of rfl) rfl (Or.inl rfl)) ea_nil))) (ev_f (ef_lst (ea_cons ev_int ea_nil)))) ev_int) ea_nil)))
  (ef_ret (ef_lst (ea_cons (ev_if (et_cmp (od_GE (hu64 hr)) (ev_var (i := 1) (nmem_of rfl) rfl (Or.inl rfl)) (ev_bin od_pow ev_int ev_int) rfl) (ev_bin od_div (ev_var (i := 1) (nmem_of rfl) rfl (Or.inl rfl)) ev_int) ev_int) (ea_cons (ev_bin od_add (ev_bin od_mod (ev_ty cd_int rfl g.b_int (by decide +kernel) (ea_cons (ev_bin od_add (ev_bin od_mul (ev_var (i := 1) (nmem_of rfl) rfl (Or.inl rfl)) ev_int) ev_int) ea_nil)) ev_int) ev_int) ea_nil)))))
/-! _law_roll -/
abbrev N__law_roll : List Str := ["cup", "many", "found", "deep"]
abbrev ps__law_roll : List Str := ["cup", "many"]
theorem sc__law_roll : FnScope N__law_roll ps__law_roll (defScope (top 37)) := ⟨rfl, rfl, rfl, by decide +kernel, rfl, by decide +kernel, by decide +kernel⟩
def B__law_roll : SS :=
  (bCons (sIf (tB (eBin dGT (eBin dIx (ePlc 0) (eC (.int 0))) (eC (.int 0)))) (bCons (sSet 2 (eBin dMod (eBlt bInt (aCons (eBin dIx (ePlc 0) (eC (.int 0))) aNil)) (eVar 1))) (bCons (sStL (eBin dDiv (eBin dIx (ePlc 0) (eC (.int 0))) (eVar 1)) (ePlc 0) (eC (.int 0))) (bCons (sRet (eVar 2)) bNil))) bNil) (bCons (sStL (eBin dMod (eBlt bInt (aCons (eBin dAdd (eBin dMul (eBin dIx (ePlc 0) (eC (.int 1))) (eC (.int 31051))) (eC (.int 7993))) aNil)) (eC (.int 2147483543))) (ePlc 0) (eC (.int 1))) (bCons (sSet 3 (eBin dMod (eBlt bInt (aCons (eBin dMul (eBin dIx (ePlc 0) (eC (.int 1))) (eBin dAdd (eBin dIx (ePlc 0) (eC (.int 1))) (eC (.int 229)))) aNil)) (eC (.int 2147483587)))) (bCons (sRet (eBin dMod (eBlt bInt (aCons (eBin dDiv (eVar 3) (eC (.int 821))) aNil)) (eVar 1))) bNil))))
def m__law_roll : FS := ⟨ps__law_roll.length, [0], runB N__law_roll.length ps__law_roll.length [0] B__law_roll⟩
@[simp] theorem np__law_roll : m__law_roll.np = 2 := nr rfl
theorem me__law_roll (ds : List D) : m__law_roll.m ds = runB 4 2 [0] B__law_roll ds := nr rfl
theorem c__law_roll (g : G K mg) : CalF P w K mg base (S0 K) 1 "_law_roll" m__law_roll := by
  obtain ⟨fd, F⟩ := g.f__law_roll
  refine cal_of (fn_ev (ow := [0]) (bor := [0]) (B := B__law_roll) (fun_of F) sc__law_roll (all_in rfl) (hbl_of rfl) (ho_of rfl) fun cdv A outer s H E hr tk => ?_) g.g__law_roll F.kp (F.bindsN fun _ _ _ _ _ _ us hl => match us, hl with | [_, _], _ => rfl)
  exact (eb_cons (es_if (et_cmp (od_GT (hu64 hr)) (ev_ix (fun _ _ => rfl) ix_all (ev_plc (i := 0) (mem_of rfl) rfl (Or.inl rfl)) ev_int) ev_int rfl) (eb_cons (es_set (i := 2) (nmem_of rfl) (nmem_of rfl) sc__law_roll.nd rfl (Or.inl rfl) (ev_bin od_mod (ev_ty cd_int rfl g.b_int (by decide +kernel) (ea_cons (ev_ix (fun _ _ => rfl) ix_all (ev_plc (i := 0) (mem_of rfl) rfl (Or.inl rfl)) ev_int) ea_nil)) (ev_var (i := 1) (nmem_of rfl) rfl (Or.inl rfl))))
  (eb_cons (es_stL (ev_bin od_div (ev_ix (fun _ _ => rfl) ix_all (ev_plc (i := 0) (mem_of rfl) rfl (Or.inl rfl)) ev_int) (ev_var (i := 1) (nmem_of rfl) rfl (Or.inl rfl))) (ev_plc (i := 0) (mem_of rfl) rfl (Or.inl rfl)) ev_int)
  (eb_cons (es_ret (ev_var (i := 2) (nmem_of rfl) rfl (Or.inl rfl)))
  eb_nil))) eb_nil)
  (eb_cons (es_stL (ev_bin od_mod (ev_ty cd_int rfl g.b_int (by decide +kernel) (ea_cons (ev_bin od_add (ev_bin od_mul (ev_ix (fun _ _ => rfl) ix_all (ev_plc (i := 0) (mem_of rfl) rfl (Or.inl rfl)) ev_int) ev_int) ev_int) ea_nil)) ev_int) (ev_plc (i := 0) (mem_of rfl) rfl (Or.inl rfl)) ev_int)
  (eb_cons (es_set (i := 3) (nmem_of rfl) (nmem_of rfl) sc__law_roll.nd rfl (Or.inl rfl) (ev_bin od_mod (ev_ty cd_int rfl g.b_int (by decide +kernel) (ea_cons (ev_bin od_mul (ev_ix (fun _ _ => rfl) ix_all (ev_plc (i := 0) (mem_of rfl) rfl (Or.inl rfl)) ev_int) (ev_bin od_add (ev_ix (fun _ _ => rfl) ix_all (ev_plc (i := 0) (mem_of rfl) rfl (Or.inl rfl)) ev_int) ev_int)) ea_nil)) ev_int))
  (eb_cons (es_ret (ev_bin od_mod (ev_ty cd_int rfl g.b_int (by decide +kernel) (ea_cons (ev_bin od_div (ev_var (i := 3) (nmem_of rfl) rfl (Or.inl rfl)) ev_int) ea_nil)) (ev_var (i := 1) (nmem_of rfl) rfl (Or.inl rfl))))
  eb_nil))))
/-! need -/
abbrev N_need : List Str := ["is_good"]
abbrev ps_need : List Str := ["is_good"]
theorem sc_need : FnScope N_need ps_need (defScope (top 19)) := ⟨rfl, rfl, rfl, by decide +kernel, rfl, by decide +kernel, by decide +kernel⟩
def B_need : SS :=
  (bCons (sIf (tNot (tTru (eVar 0))) (bCons sNo bNil) bNil) bNil)
def m_need : FS := ⟨ps_need.length, [], runB N_need.length ps_need.length [] B_need⟩
@[simp] theorem np_need : m_need.np = 1 := nr rfl
theorem me_need (ds : List D) : m_need.m ds = runB 1 1 [] B_need ds := nr rfl
theorem c_need (g : G K mg) : CalF P w K mg base (S0 K) 1 "need" m_need := by
  obtain ⟨fd, F⟩ := g.f_need
  refine cal_of (fn_ev (ow := []) (bor := []) (B := B_need) (fun_of F) sc_need (all_in rfl) (hbl_of rfl) (ho_of rfl) fun cdv A outer s H E hr tk => ?_) g.g_need F.kp (F.bindsN fun _ _ _ _ _ _ us hl => match us, hl with | [_], _ => rfl)
  exact (eb_cons (es_if (et_not (et_truth (ev_var (i := 0) (nmem_of rfl) rfl (Or.inl rfl)) (fun _ => rfl))) (eb_cons es_no
  eb_nil) eb_nil)
  eb_nil)
/-! is_tuple_of -/
abbrev N_is_tuple_of : List Str := ["value", "low", "high"]
abbrev ps_is_tuple_of : List Str := ["value", "low", "high"]
theorem sc_is_tuple_of : FnScope N_is_tuple_of ps_is_tuple_of (defScope (top 7)) := ⟨rfl, rfl, rfl, by decide +kernel, rfl, by decide +kernel, by decide +kernel⟩
def B_is_tuple_of : SS :=
  (bCons (sRet (eAnd (eIsi 3 (eVar 0)) (eChain dLE dLE (eVar 1) (eBlt bLen (aCons (eVar 0) aNil)) (eVar 2)))) bNil)
def m_is_tuple_of : FS := ⟨ps_is_tuple_of.length, [], runB N_is_tuple_of.length ps_is_tuple_of.length [] B_is_tuple_of⟩
@[simp] theorem np_is_tuple_of : m_is_tuple_of.np = 3 := nr rfl
theorem me_is_tuple_of (ds : List D) : m_is_tuple_of.m ds = runB 3 3 [] B_is_tuple_of ds := nr rfl
theorem c_is_tuple_of (g : G K mg) : CalF P w K mg base (S0 K) 1 "is_tuple_of" m_is_tuple_of := by
  obtain ⟨fd, F⟩ := g.f_is_tuple_of
  refine cal_of (fn_ev (ow := []) (bor := []) (B := B_is_tuple_of) (fun_of F) sc_is_tuple_of (all_in rfl) (hbl_of rfl) (ho_of rfl) fun cdv A outer s H E hr tk => ?_) g.g_is_tuple_of F.kp (F.bindsN fun _ _ _ _ _ _ us hl => match us, hl with | [_, _, _], _ => rfl)
  exact (eb_cons (es_ret (ev_and (ev_isi 3 (by decide) rfl g.b_isinstance rfl g.b_tuple (by decide +kernel) (ev_var (i := 0) (nmem_of rfl) rfl (Or.inl rfl))) (ev_one (ev_chain (od_LE (hu64 hr)) (od_LE (hu64 hr)) (ev_var (i := 1) (nmem_of rfl) rfl (Or.inl rfl)) (ev_blt cd_len rfl g.b_len (by decide +kernel) (ea_cons (ev_var (i := 0) (nmem_of rfl) rfl (Or.inl rfl)) ea_nil)) (ev_var (i := 2) (nmem_of rfl) rfl (Or.inl rfl))))))
  eb_nil)
/-! is_word -/
abbrev N_is_word : List Str := ["value", "signs", "low", "high", "sign"]
abbrev ps_is_word : List Str := ["value", "signs", "low", "high"]
theorem sc_is_word : FnScope N_is_word ps_is_word (defScope (top 8)) := ⟨rfl, rfl, rfl, by decide +kernel, rfl, by decide +kernel, by decide +kernel⟩
def B_is_word : SS :=
  (bCons (sRet (eAnd (eIsi 2 (eVar 0)) (eAnd (eChain dLE dLE (eVar 2) (eBlt bLen (aCons (eVar 0) aNil)) (eVar 3)) (eBlt bAll (aCons (eF (fLc [4] (iSeq (eVar 0)) (gNm 4) cYes (eBin (dIn id) (eVar 4) (eVar 1)))) aNil))))) bNil)
def m_is_word : FS := ⟨ps_is_word.length, [], runB N_is_word.length ps_is_word.length [] B_is_word⟩
@[simp] theorem np_is_word : m_is_word.np = 4 := nr rfl
theorem me_is_word (ds : List D) : m_is_word.m ds = runB 5 4 [] B_is_word ds := nr rfl
theorem c_is_word (g : G K mg) : CalF P w K mg base (S0 K) 1 "is_word" m_is_word := by
  obtain ⟨fd, F⟩ := g.f_is_word
  refine cal_of (fn_ev (ow := []) (bor := []) (B := B_is_word) (fun_of F) sc_is_word (all_in rfl) (hbl_of rfl) (ho_of rfl) fun cdv A outer s H E hr tk => ?_) g.g_is_word F.kp (F.bindsN fun _ _ _ _ _ _ us hl => match us, hl with | [_, _, _, _], _ => rfl)
  exact (eb_cons (es_ret (ev_and (ev_isi 2 (by decide) rfl g.b_isinstance rfl g.b_str (by decide +kernel) (ev_var (i := 0) (nmem_of rfl) rfl (Or.inl rfl))) (ev_and (ev_chain (od_LE (hu64 hr)) (od_LE (hu64 hr)) (ev_var (i := 2) (nmem_of rfl) rfl (Or.inl rfl)) (ev_blt cd_len rfl g.b_len (by decide +kernel) (ea_cons (ev_var (i := 0) (nmem_of rfl) rfl (Or.inl rfl)) ea_nil)) (ev_var (i := 3) (nmem_of rfl) rfl (Or.inl rfl))) (ev_one (ev_blt (cd_all rfl) rfl g.b_all (by decide +kernel) (ea_cons (ev_f (ef_lc (own := [("sign", 4)]) rfl sc_is_word.nd (all_not rfl) (all_not rfl) (all_in rfl) (ei_seq (ev_var (i := 0) (nmem_of rfl) rfl (Or.inl rfl))) (blkOk_by (by rfl)) (fun _ _ _ _ _ => (eg_nm (i := 4) (nmem_of rfl) (nmem_of rfl) sc_is_word.nd rfl (Or.inl rfl))) (fun _ _ _ _ _ => (ev_cmp (od_in (hu65 hr)) (ev_var (i := 4) (nmem_of rfl) rfl (Or.inl rfl)) (ev_var (i := 1) (nmem_of rfl) rfl (Or.inr (Or.inl rfl))) rfl)))) ea_nil))))))
  eb_nil)
/-! is_name -/
abbrev N_is_name : List Str := ["value"]
abbrev ps_is_name : List Str := ["value"]
theorem sc_is_name : FnScope N_is_name ps_is_name (defScope (top 9)) := ⟨rfl, rfl, rfl, by decide +kernel, rfl, by decide +kernel, by decide +kernel⟩
def B_is_name : SS :=
  (bCons (sRet (eAnd (eCall m_is_word (aCons (eVar 0) (aCons (eBin dAdd (eC (.str [97, 98, 99, 100, 101, 102, 103, 104, 105, 106, 107, 108, 109, 110, 111, 112, 113, 114, 115, 116, 117, 118, 119, 120, 121, 122])) (eC (.str [48, 49, 50, 51, 52, 53, 54, 55, 56, 57]))) (aCons (eC (.int 1)) (aCons (eC (.int 12)) aNil))))) (eBin (dIn id) (eBin dIx (eVar 0) (eC (.int 0))) (eC (.str [97, 98, 99, 100, 101, 102, 103, 104, 105, 106, 107, 108, 109, 110, 111, 112, 113, 114, 115, 116, 117, 118, 119, 120, 121, 122]))))) bNil)
def m_is_name : FS := ⟨ps_is_name.length, [], runB N_is_name.length ps_is_name.length [] B_is_name⟩
@[simp] theorem np_is_name : m_is_name.np = 1 := nr rfl
theorem me_is_name (ds : List D) : m_is_name.m ds = runB 1 1 [] B_is_name ds := nr rfl
theorem c_is_name (g : G K mg) : CalF P w K mg base (S0 K) 2 "is_name" m_is_name := by
  obtain ⟨fd, F⟩ := g.f_is_name
  refine cal_of (fn_ev (ow := []) (bor := []) (B := B_is_name) (fun_of F) sc_is_name (all_in rfl) (hbl_of rfl) (ho_of rfl) fun cdv A outer s H E hr tk => ?_) g.g_is_name F.kp (F.bindsN fun _ _ _ _ _ _ us hl => match us, hl with | [_], _ => rfl)
  exact (eb_cons (es_ret (ev_and (ev_call tk (c_is_word g) same0 rfl hr (by decide) rfl (ea_cons (ev_var (i := 0) (nmem_of rfl) rfl (Or.inl rfl)) (ea_cons (ev_bin od_add (ev_gstr rfl g.s_LETTERS) (ev_str [48, 49, 50, 51, 52, 53, 54, 55, 56, 57])) (ea_cons ev_int (ea_cons (ev_gint rfl g.i_NAME_SIGNS) ea_nil))))) (ev_one (ev_cmp (od_in (hu65 hr)) (ev_ix (fun _ _ => rfl) ix_all (ev_var (i := 0) (nmem_of rfl) rfl (Or.inl rfl)) ev_int) (ev_gstr rfl g.s_LETTERS) rfl))))
  eb_nil)
/-! fits_tablet -/
abbrev N_fits_tablet : List Str := ["value", "name"]
abbrev ps_fits_tablet : List Str := ["value"]
theorem sc_fits_tablet : FnScope N_fits_tablet ps_fits_tablet (defScope (top 14)) := ⟨rfl, rfl, rfl, by decide +kernel, rfl, by decide +kernel, by decide +kernel⟩
def B_fits_tablet : SS :=
  (bCons (sIf (tOr (tNot (tTru (eCall m_is_tuple_of (aCons (eVar 0) (aCons (eC (.int 2)) (aCons (eC (.int 2)) aNil)))))) (tOr (tNot (tTru (eIsi 2 (eBin dIx (eVar 0) (eC (.int 0)))))) (tB (eBin (dIn not) (eBin dIx (eVar 0) (eC (.int 0))) (eTup (aCons (eC (.str [115])) (aCons (eC (.str [122])) aNil))))))) (bCons (sRet (eC (.bl false))) bNil) bNil) (bCons (sRet (eAnd (eCall m_is_tuple_of (aCons (eBin dIx (eVar 0) (eC (.int 1))) (aCons (eC (.int 4)) (aCons (eC (.int 4)) aNil)))) (eBlt bAll (aCons (eF (fLc [1] (iSeq (eBin dIx (eVar 0) (eC (.int 1)))) (gNm 1) cYes (eCall m_is_name (aCons (eVar 1) aNil)))) aNil)))) bNil))
def m_fits_tablet : FS := ⟨ps_fits_tablet.length, [], runB N_fits_tablet.length ps_fits_tablet.length [] B_fits_tablet⟩
@[simp] theorem np_fits_tablet : m_fits_tablet.np = 1 := nr rfl
theorem me_fits_tablet (ds : List D) : m_fits_tablet.m ds = runB 2 1 [] B_fits_tablet ds := nr rfl
theorem c_fits_tablet (g : G K mg) : CalF P w K mg base (S0 K) 3 "fits_tablet" m_fits_tablet := by
  obtain ⟨fd, F⟩ := g.f_fits_tablet
  refine cal_of (fn_ev (ow := []) (bor := []) (B := B_fits_tablet) (fun_of F) sc_fits_tablet (all_in rfl) (hbl_of rfl) (ho_of rfl) fun cdv A outer s H E hr tk => ?_) g.g_fits_tablet F.kp (F.bindsN fun _ _ _ _ _ _ us hl => match us, hl with | [_], _ => rfl)
  exact (eb_cons (es_if (EvW.t (ew_or (et_not (et_truth (ev_call tk (c_is_tuple_of g) same0 rfl hr (by decide) rfl (ea_cons (ev_var (i := 0) (nmem_of rfl) rfl (Or.inl rfl)) (ea_cons ev_int (ea_cons ev_int ea_nil)))) (fun _ => rfl))) (ew_or (et_not (et_truth (ev_isi 2 (by decide) rfl g.b_isinstance rfl g.b_str (by decide +kernel) (ev_ix (fun _ _ => rfl) ix_all (ev_var (i := 0) (nmem_of rfl) rfl (Or.inl rfl)) ev_int)) (fun _ => rfl))) (ew_or1 (et_cmp (od_notIn (hu65 hr)) (ev_ix (fun _ _ => rfl) ix_all (ev_var (i := 0) (nmem_of rfl) rfl (Or.inl rfl)) ev_int) (ev_tup (ea_cons (ev_str [115]) (ea_cons (ev_str [122]) ea_nil))) rfl))))) (eb_cons (es_ret ev_bl)
  eb_nil) eb_nil)
  (eb_cons (es_ret (ev_and (ev_call tk (c_is_tuple_of g) same0 rfl hr (by decide) rfl (ea_cons (ev_ix (fun _ _ => rfl) ix_all (ev_var (i := 0) (nmem_of rfl) rfl (Or.inl rfl)) ev_int) (ea_cons (ev_gint rfl g.i_HOLES) (ea_cons (ev_gint rfl g.i_HOLES) ea_nil)))) (ev_one (ev_blt (cd_all rfl) rfl g.b_all (by decide +kernel) (ea_cons (ev_f (ef_lc (own := [("name", 1)]) rfl sc_fits_tablet.nd (all_not rfl) (all_not rfl) (all_in rfl) (ei_seq (ev_ix (fun _ _ => rfl) ix_all (ev_var (i := 0) (nmem_of rfl) rfl (Or.inl rfl)) ev_int)) (blkOk_by (by rfl)) (fun _ _ _ _ _ => (eg_nm (i := 1) (nmem_of rfl) (nmem_of rfl) sc_fits_tablet.nd rfl (Or.inl rfl))) (fun _ _ _ _ _ => (ev_call takes0 (c_is_name g) same0 rfl hr (by decide) rfl (ea_cons (ev_var (i := 1) (nmem_of rfl) rfl (Or.inl rfl)) ea_nil))))) ea_nil)))))
  eb_nil))
/-! is_whole -/
abbrev N_is_whole : List Str := ["value", "low", "high"]
abbrev ps_is_whole : List Str := ["value", "low", "high"]
theorem sc_is_whole : FnScope N_is_whole ps_is_whole (defScope (top 6)) := ⟨rfl, rfl, rfl, by decide +kernel, rfl, by decide +kernel, by decide +kernel⟩
def B_is_whole : SS :=
  (bCons (sRet (eAnd (eIsi 0 (eVar 0)) (eAnd (eNot (eIsi 1 (eVar 0))) (eChain dLE dLE (eVar 1) (eVar 0) (eVar 2))))) bNil)
def m_is_whole : FS := ⟨ps_is_whole.length, [], runB N_is_whole.length ps_is_whole.length [] B_is_whole⟩
@[simp] theorem np_is_whole : m_is_whole.np = 3 := nr rfl
theorem me_is_whole (ds : List D) : m_is_whole.m ds = runB 3 3 [] B_is_whole ds := nr rfl
theorem c_is_whole (g : G K mg) : CalF P w K mg base (S0 K) 1 "is_whole" m_is_whole := by
  obtain ⟨fd, F⟩ := g.f_is_whole
  refine cal_of (fn_ev (ow := []) (bor := []) (B := B_is_whole) (fun_of F) sc_is_whole (all_in rfl) (hbl_of rfl) (ho_of rfl) fun cdv A outer s H E hr tk => ?_) g.g_is_whole F.kp (F.bindsN fun _ _ _ _ _ _ us hl => match us, hl with | [_, _, _], _ => rfl)
  exact (eb_cons (es_ret (ev_and (ev_isi 0 (by decide) rfl g.b_isinstance rfl g.b_int (by decide +kernel) (ev_var (i := 0) (nmem_of rfl) rfl (Or.inl rfl))) (ev_and (ev_not (ev_isi 1 (by decide) rfl g.b_isinstance rfl g.b_bool (by decide +kernel) (ev_var (i := 0) (nmem_of rfl) rfl (Or.inl rfl)))) (ev_one (ev_chain (od_LE (hu64 hr)) (od_LE (hu64 hr)) (ev_var (i := 1) (nmem_of rfl) rfl (Or.inl rfl)) (ev_var (i := 0) (nmem_of rfl) rfl (Or.inl rfl)) (ev_var (i := 2) (nmem_of rfl) rfl (Or.inl rfl)))))))
  eb_nil)
/-! is_turn -/
abbrev N_is_turn : List Str := ["value"]
abbrev ps_is_turn : List Str := ["value"]
theorem sc_is_turn : FnScope N_is_turn ps_is_turn (defScope (top 16)) := ⟨rfl, rfl, rfl, by decide +kernel, rfl, by decide +kernel, by decide +kernel⟩
def B_is_turn : SS :=
  (bCons (sRet (eAnd (eCall m_is_whole (aCons (eVar 0) (aCons (eUn dNeg (eC (.int 1))) (aCons (eC (.int 1)) aNil)))) (eBin dNe (eVar 0) (eC (.int 0))))) bNil)
def m_is_turn : FS := ⟨ps_is_turn.length, [], runB N_is_turn.length ps_is_turn.length [] B_is_turn⟩
@[simp] theorem np_is_turn : m_is_turn.np = 1 := nr rfl
theorem me_is_turn (ds : List D) : m_is_turn.m ds = runB 1 1 [] B_is_turn ds := nr rfl
theorem c_is_turn (g : G K mg) : CalF P w K mg base (S0 K) 2 "is_turn" m_is_turn := by
  obtain ⟨fd, F⟩ := g.f_is_turn
  refine cal_of (fn_ev (ow := []) (bor := []) (B := B_is_turn) (fun_of F) sc_is_turn (all_in rfl) (hbl_of rfl) (ho_of rfl) fun cdv A outer s H E hr tk => ?_) g.g_is_turn F.kp (F.bindsN fun _ _ _ _ _ _ us hl => match us, hl with | [_], _ => rfl)
  exact (eb_cons (es_ret (ev_and (ev_call tk (c_is_whole g) same0 rfl hr (by decide) rfl (ea_cons (ev_var (i := 0) (nmem_of rfl) rfl (Or.inl rfl)) (ea_cons (ev_un ud_neg ev_int) (ea_cons ev_int ea_nil)))) (ev_one (ev_cmp (od_ne (hu64 hr)) (ev_var (i := 0) (nmem_of rfl) rfl (Or.inl rfl)) ev_int rfl))))
  eb_nil)
/-! fits_turns -/
abbrev N_fits_turns : List Str := ["value", "turn"]
abbrev ps_fits_turns : List Str := ["value"]
theorem sc_fits_turns : FnScope N_fits_turns ps_fits_turns (defScope (top 17)) := ⟨rfl, rfl, rfl, by decide +kernel, rfl, by decide +kernel, by decide +kernel⟩
def B_fits_turns : SS :=
  (bCons (sRet (eAnd (eCall m_is_tuple_of (aCons (eVar 0) (aCons (eC (.int 0)) (aCons (eC (.int 40)) aNil)))) (eBlt bAll (aCons (eF (fLc [1] (iSeq (eVar 0)) (gNm 1) cYes (eCall m_is_turn (aCons (eVar 1) aNil)))) aNil)))) bNil)
def m_fits_turns : FS := ⟨ps_fits_turns.length, [], runB N_fits_turns.length ps_fits_turns.length [] B_fits_turns⟩
@[simp] theorem np_fits_turns : m_fits_turns.np = 1 := nr rfl
theorem me_fits_turns (ds : List D) : m_fits_turns.m ds = runB 2 1 [] B_fits_turns ds := nr rfl
theorem c_fits_turns (g : G K mg) : CalF P w K mg base (S0 K) 3 "fits_turns" m_fits_turns := by
  obtain ⟨fd, F⟩ := g.f_fits_turns
  refine cal_of (fn_ev (ow := []) (bor := []) (B := B_fits_turns) (fun_of F) sc_fits_turns (all_in rfl) (hbl_of rfl) (ho_of rfl) fun cdv A outer s H E hr tk => ?_) g.g_fits_turns F.kp (F.bindsN fun _ _ _ _ _ _ us hl => match us, hl with | [_], _ => rfl)
  exact (eb_cons (es_ret (ev_and (ev_call tk (c_is_tuple_of g) same0 rfl hr (by decide) rfl (ea_cons (ev_var (i := 0) (nmem_of rfl) rfl (Or.inl rfl)) (ea_cons ev_int (ea_cons (ev_gint rfl g.i_ROWS) ea_nil)))) (ev_one (ev_blt (cd_all rfl) rfl g.b_all (by decide +kernel) (ea_cons (ev_f (ef_lc (own := [("turn", 1)]) rfl sc_fits_turns.nd (all_not rfl) (all_not rfl) (all_in rfl) (ei_seq (ev_var (i := 0) (nmem_of rfl) rfl (Or.inl rfl))) (blkOk_by (by rfl)) (fun _ _ _ _ _ => (eg_nm (i := 1) (nmem_of rfl) (nmem_of rfl) sc_fits_turns.nd rfl (Or.inl rfl))) (fun _ _ _ _ _ => (ev_call takes0 (c_is_turn g) same0 rfl hr (by decide) rfl (ea_cons (ev_var (i := 1) (nmem_of rfl) rfl (Or.inl rfl)) ea_nil))))) ea_nil)))))
  eb_nil)
/-! shows -/
abbrev N_shows : List Str := ["top", "turn"]
abbrev ps_shows : List Str := ["top", "turn"]
theorem sc_shows : FnScope N_shows ps_shows (defScope (top 20)) := ⟨rfl, rfl, rfl, by decide +kernel, rfl, by decide +kernel, by decide +kernel⟩
def B_shows : SS :=
  (bCons (sIf (tB (eBin dGT (eVar 1) (eC (.int 0)))) (bCons (sRet (eTup (aCons (eVar 0) (aCons (eBin dMod (eBin dAdd (eVar 0) (eC (.int 1))) (eC (.int 4))) aNil)))) bNil) bNil) (bCons (sRet (eTup (aCons (eBin dMod (eBin dSub (eVar 0) (eC (.int 1))) (eC (.int 4))) (aCons (eBin dMod (eBin dSub (eVar 0) (eC (.int 1))) (eC (.int 4))) aNil)))) bNil))
def m_shows : FS := ⟨ps_shows.length, [], runB N_shows.length ps_shows.length [] B_shows⟩
@[simp] theorem np_shows : m_shows.np = 2 := nr rfl
theorem me_shows (ds : List D) : m_shows.m ds = runB 2 2 [] B_shows ds := nr rfl
theorem c_shows (g : G K mg) : CalF P w K mg base (S0 K) 1 "shows" m_shows := by
  obtain ⟨fd, F⟩ := g.f_shows
  refine cal_of (fn_ev (ow := []) (bor := []) (B := B_shows) (fun_of F) sc_shows (all_in rfl) (hbl_of rfl) (ho_of rfl) fun cdv A outer s H E hr tk => ?_) g.g_shows F.kp (F.bindsN fun _ _ _ _ _ _ us hl => match us, hl with | [_, _], _ => rfl)
  exact (eb_cons (es_if (et_cmp (od_GT (hu64 hr)) (ev_var (i := 1) (nmem_of rfl) rfl (Or.inl rfl)) ev_int rfl) (eb_cons (es_ret (ev_tup (ea_cons (ev_var (i := 0) (nmem_of rfl) rfl (Or.inl rfl)) (ea_cons (ev_bin od_mod (ev_bin od_add (ev_var (i := 0) (nmem_of rfl) rfl (Or.inl rfl)) ev_int) (ev_gint rfl g.i_HOLES)) ea_nil))))
  eb_nil) eb_nil)
  (eb_cons (es_ret (ev_tup (ea_cons (ev_bin od_mod (ev_bin od_sub (ev_var (i := 0) (nmem_of rfl) rfl (Or.inl rfl)) ev_int) (ev_gint rfl g.i_HOLES)) (ea_cons (ev_bin od_mod (ev_bin od_sub (ev_var (i := 0) (nmem_of rfl) rfl (Or.inl rfl)) ev_int) (ev_gint rfl g.i_HOLES)) ea_nil))))
  eb_nil))
/-! holes_of -/
abbrev N_holes_of : List Str := ["turns", "top", "found", "turn", "hole"]
abbrev ps_holes_of : List Str := ["turns"]
theorem sc_holes_of : FnScope N_holes_of ps_holes_of (defScope (top 21)) := ⟨rfl, rfl, rfl, by decide +kernel, rfl, by decide +kernel, by decide +kernel⟩
def B_holes_of : SS :=
  (bCons (sPar [(1, false), (2, true)] (qVal (eC (.int 0)) (qNew (fLst aNil) qNil))) (bCons (sFor (iSeq (eVar 0)) (gNm 3) (bCons (sAsgN (gTupD 2 (gsCons (gNm 4) (gsCons (gNm 1) gsNil))) (eCall m_shows (aCons (eVar 1) (aCons (eVar 3) aNil)))) (bCons (sExpr (eApp (ePlc 2) (eVar 4))) bNil))) (bFrz 2 (bCons (sRet (eTup (aCons (eVar 2) (aCons (eVar 1) aNil)))) bNil))))
def m_holes_of : FS := ⟨ps_holes_of.length, [], runB N_holes_of.length ps_holes_of.length [] B_holes_of⟩
@[simp] theorem np_holes_of : m_holes_of.np = 1 := nr rfl
theorem me_holes_of (ds : List D) : m_holes_of.m ds = runB 5 1 [] B_holes_of ds := nr rfl
theorem c_holes_of (g : G K mg) : CalF P w K mg base (S0 K) 2 "holes_of" m_holes_of := by
  obtain ⟨fd, F⟩ := g.f_holes_of
  refine cal_of (fn_ev (ow := [2]) (bor := []) (B := B_holes_of) (fun_of F) sc_holes_of (all_in rfl) (hbl_of rfl) (ho_of rfl) fun cdv A outer s H E hr tk => ?_) g.g_holes_of F.kp (F.bindsN fun _ _ _ _ _ _ us hl => match us, hl with | [_], _ => rfl)
  exact (eb_cons (es_par2 (okT_of rfl) rfl sc_holes_of.nd rfl rfl (by decide) rfl rfl (eq_val ev_int (eq_new (ef_lst ea_nil) eq_nil)) (by rfl))
  (eb_cons (es_for (passes_of rfl) rfl (ei_seq (ev_var (i := 0) (nmem_of rfl) rfl (Or.inl rfl))) (eg_nm (i := 3) (nmem_of rfl) (nmem_of rfl) sc_holes_of.nd rfl (Or.inl rfl)) (eb_cons (es_asg (ev_call tk (c_shows g) same0 rfl hr (by decide) rfl (ea_cons (ev_var (i := 1) (nmem_of rfl) rfl (Or.inl rfl)) (ea_cons (ev_var (i := 3) (nmem_of rfl) rfl (Or.inl rfl)) ea_nil))) (eg_tup rfl (egs_cons (eg_nm (i := 4) (nmem_of rfl) (nmem_of rfl) sc_holes_of.nd rfl (Or.inl rfl)) (egs_cons (eg_nm (i := 1) (nmem_of rfl) (nmem_of rfl) sc_holes_of.nd rfl (Or.inl rfl)) egs_nil))))
  (eb_cons (es_expr (ev_app (ev_plc (i := 2) (mem_of rfl) rfl (Or.inl rfl)) (ev_var (i := 4) (nmem_of rfl) rfl (Or.inl rfl))))
  eb_nil)))
  (eb_frz (i := 2) (ow' := []) (frz_of rfl) (nmem_of rfl) (nmem_of rfl)
  (eb_cons (es_ret (ev_tup (ea_cons (ev_var (i := 2) (nmem_of rfl) rfl (Or.inl rfl)) (ea_cons (ev_var (i := 1) (nmem_of rfl) rfl (Or.inl rfl)) ea_nil))))
  eb_nil))))
/-! column_of -/
abbrev N_column_of : List Str := ["tablet", "turns", "hole"]
abbrev ps_column_of : List Str := ["tablet", "turns"]
theorem sc_column_of : FnScope N_column_of ps_column_of (defScope (top 26)) := ⟨rfl, rfl, rfl, by decide +kernel, rfl, by decide +kernel, by decide +kernel⟩
def B_column_of : SS :=
  (bCons (sExpr (eCall m_need (aCons (eCall m_fits_tablet (aCons (eVar 0) aNil)) aNil))) (bCons (sExpr (eCall m_need (aCons (eCall m_fits_turns (aCons (eVar 1) aNil)) aNil))) (bCons (sRet (eBlt bTup (aCons (eF (fLc [2] (iSeq (eBin dIx (eCall m_holes_of (aCons (eVar 1) aNil)) (eC (.int 0)))) (gNm 2) cYes (eBin dIx (eBin dIx (eVar 0) (eC (.int 1))) (eVar 2)))) aNil))) bNil)))
def m_column_of : FS := ⟨ps_column_of.length, [], runB N_column_of.length ps_column_of.length [] B_column_of⟩
@[simp] theorem np_column_of : m_column_of.np = 2 := nr rfl
theorem me_column_of (ds : List D) : m_column_of.m ds = runB 3 2 [] B_column_of ds := nr rfl
theorem c_column_of (g : G K mg) : CalF P w K mg base (S0 K) 4 "column_of" m_column_of := by
  obtain ⟨fd, F⟩ := g.f_column_of
  refine cal_of (fn_ev (ow := []) (bor := []) (B := B_column_of) (fun_of F) sc_column_of (all_in rfl) (hbl_of rfl) (ho_of rfl) fun cdv A outer s H E hr tk => ?_) g.g_column_of F.kp (F.bindsN fun _ _ _ _ _ _ us hl => match us, hl with | [_, _], _ => rfl)
  exact (eb_cons (es_expr (ev_call tk (c_need g) same0 rfl hr (by decide) rfl (ea_cons (ev_call tk (c_fits_tablet g) same0 rfl hr (by decide) rfl (ea_cons (ev_var (i := 0) (nmem_of rfl) rfl (Or.inr (Or.inl rfl))) ea_nil)) ea_nil)))
  (eb_cons (es_expr (ev_call tk (c_need g) same0 rfl hr (by decide) rfl (ea_cons (ev_call tk (c_fits_turns g) same0 rfl hr (by decide) rfl (ea_cons (ev_var (i := 1) (nmem_of rfl) rfl (Or.inl rfl)) ea_nil)) ea_nil)))
  (eb_cons (es_ret (ev_ty cd_tup rfl g.b_tuple (by decide +kernel) (ea_cons (ev_f (ef_lc (own := [("hole", 2)]) rfl sc_column_of.nd (all_not rfl) (all_not rfl) (all_in rfl) (ei_seq (ev_ix (fun _ _ => rfl) ix_all (ev_call tk (c_holes_of g) same0 rfl hr (by decide) rfl (ea_cons (ev_var (i := 1) (nmem_of rfl) rfl (Or.inl rfl)) ea_nil)) ev_int)) (blkOk_by (by rfl)) (fun _ _ _ _ _ => (eg_nm (i := 2) (nmem_of rfl) (nmem_of rfl) sc_column_of.nd rfl (Or.inl rfl))) (fun _ _ _ _ _ => (ev_ix (fun _ _ => rfl) ix_all (ev_ix (fun _ _ => rfl) ix_all (ev_var (i := 0) (nmem_of rfl) rfl (Or.inr (Or.inl rfl))) ev_int) (ev_var (i := 2) (nmem_of rfl) rfl (Or.inl rfl)))))) ea_nil)))
  eb_nil)))
/-! is_tablet -/
abbrev N_is_tablet : List Str := ["value"]
abbrev ps_is_tablet : List Str := ["value"]
theorem sc_is_tablet : FnScope N_is_tablet ps_is_tablet (defScope (top 23)) := ⟨rfl, rfl, rfl, by decide +kernel, rfl, by decide +kernel, by decide +kernel⟩
def B_is_tablet : SS :=
  (bCons (sRet (eCall m_fits_tablet (aCons (eVar 0) aNil))) bNil)
def m_is_tablet : FS := ⟨ps_is_tablet.length, [], runB N_is_tablet.length ps_is_tablet.length [] B_is_tablet⟩
@[simp] theorem np_is_tablet : m_is_tablet.np = 1 := nr rfl
theorem me_is_tablet (ds : List D) : m_is_tablet.m ds = runB 1 1 [] B_is_tablet ds := nr rfl
theorem c_is_tablet (g : G K mg) : CalF P w K mg base (S0 K) 4 "is_tablet" m_is_tablet := by
  obtain ⟨fd, F⟩ := g.f_is_tablet
  refine cal_of (fn_ev (ow := []) (bor := []) (B := B_is_tablet) (fun_of F) sc_is_tablet (all_in rfl) (hbl_of rfl) (ho_of rfl) fun cdv A outer s H E hr tk => ?_) g.g_is_tablet F.kp (F.bindsN fun _ _ _ _ _ _ us hl => match us, hl with | [_], _ => rfl)
  exact (eb_cons (es_ret (ev_call tk (c_fits_tablet g) same0 rfl hr (by decide) rfl (ea_cons (ev_var (i := 0) (nmem_of rfl) rfl (Or.inl rfl)) ea_nil)))
  eb_nil)
/-! top_of -/
abbrev N_top_of : List Str := ["turns"]
abbrev ps_top_of : List Str := ["turns"]
theorem sc_top_of : FnScope N_top_of ps_top_of (defScope (top 27)) := ⟨rfl, rfl, rfl, by decide +kernel, rfl, by decide +kernel, by decide +kernel⟩
def B_top_of : SS :=
  (bCons (sExpr (eCall m_need (aCons (eCall m_fits_turns (aCons (eVar 0) aNil)) aNil))) (bCons (sRet (eBin dIx (eCall m_holes_of (aCons (eVar 0) aNil)) (eC (.int 1)))) bNil))
def m_top_of : FS := ⟨ps_top_of.length, [], runB N_top_of.length ps_top_of.length [] B_top_of⟩
@[simp] theorem np_top_of : m_top_of.np = 1 := nr rfl
theorem me_top_of (ds : List D) : m_top_of.m ds = runB 1 1 [] B_top_of ds := nr rfl
theorem c_top_of (g : G K mg) : CalF P w K mg base (S0 K) 4 "top_of" m_top_of := by
  obtain ⟨fd, F⟩ := g.f_top_of
  refine cal_of (fn_ev (ow := []) (bor := []) (B := B_top_of) (fun_of F) sc_top_of (all_in rfl) (hbl_of rfl) (ho_of rfl) fun cdv A outer s H E hr tk => ?_) g.g_top_of F.kp (F.bindsN fun _ _ _ _ _ _ us hl => match us, hl with | [_], _ => rfl)
  exact (eb_cons (es_expr (ev_call tk (c_need g) same0 rfl hr (by decide) rfl (ea_cons (ev_call tk (c_fits_turns g) same0 rfl hr (by decide) rfl (ea_cons (ev_var (i := 0) (nmem_of rfl) rfl (Or.inl rfl)) ea_nil)) ea_nil)))
  (eb_cons (es_ret (ev_ix (fun _ _ => rfl) ix_all (ev_call tk (c_holes_of g) same0 rfl hr (by decide) rfl (ea_cons (ev_var (i := 0) (nmem_of rfl) rfl (Or.inl rfl)) ea_nil)) ev_int))
  eb_nil))
/-! twist_of -/
abbrev N_twist_of : List Str := ["turns"]
abbrev ps_twist_of : List Str := ["turns"]
theorem sc_twist_of : FnScope N_twist_of ps_twist_of (defScope (top 28)) := ⟨rfl, rfl, rfl, by decide +kernel, rfl, by decide +kernel, by decide +kernel⟩
def B_twist_of : SS :=
  (bCons (sExpr (eCall m_need (aCons (eCall m_fits_turns (aCons (eVar 0) aNil)) aNil))) (bCons (sRet (eBlt bSumA (aCons (eVar 0) aNil))) bNil))
def m_twist_of : FS := ⟨ps_twist_of.length, [], runB N_twist_of.length ps_twist_of.length [] B_twist_of⟩
@[simp] theorem np_twist_of : m_twist_of.np = 1 := nr rfl
theorem me_twist_of (ds : List D) : m_twist_of.m ds = runB 1 1 [] B_twist_of ds := nr rfl
theorem c_twist_of (g : G K mg) : CalF P w K mg base (S0 K) 4 "twist_of" m_twist_of := by
  obtain ⟨fd, F⟩ := g.f_twist_of
  refine cal_of (fn_ev (ow := []) (bor := []) (B := B_twist_of) (fun_of F) sc_twist_of (all_in rfl) (hbl_of rfl) (ho_of rfl) fun cdv A outer s H E hr tk => ?_) g.g_twist_of F.kp (F.bindsN fun _ _ _ _ _ _ us hl => match us, hl with | [_], _ => rfl)
  exact (eb_cons (es_expr (ev_call tk (c_need g) same0 rfl hr (by decide) rfl (ea_cons (ev_call tk (c_fits_turns g) same0 rfl hr (by decide) rfl (ea_cons (ev_var (i := 0) (nmem_of rfl) rfl (Or.inl rfl)) ea_nil)) ea_nil)))
  (eb_cons (es_ret (ev_blt (cd_sumA rfl) rfl g.b_sum (by decide +kernel) (ea_cons (ev_var (i := 0) (nmem_of rfl) rfl (Or.inl rfl)) ea_nil)))
  eb_nil))
/-! _law_sort -/
abbrev N__law_sort : List Str := ["value"]
abbrev ps__law_sort : List Str := ["value"]
theorem sc__law_sort : FnScope N__law_sort ps__law_sort (defScope (top 39)) := ⟨rfl, rfl, rfl, by decide +kernel, rfl, by decide +kernel, by decide +kernel⟩
def B__law_sort : SS :=
  (bCons (sIf (tOr (tB (eBin (dIs false) (eVar 0) (eC .non))) (tTru (eIsi 1 (eVar 0)))) (bCons (sRet (eIf (tB (eBin (dIs false) (eVar 0) (eC .non))) (eC (.int 0)) (eC (.int 1)))) bNil) bNil) (bCons (sIf (tOr (tTru (eIsi 0 (eVar 0))) (tTru (eIsi 2 (eVar 0)))) (bCons (sRet (eIf (tTru (eIsi 0 (eVar 0))) (eC (.int 2)) (eC (.int 3)))) bNil) bNil) (bCons (sRet (eIf (tTru (eIsi 3 (eVar 0))) (eC (.int 4)) (eIf (tTru (eIsi 4 (eVar 0))) (eC (.int 5)) (eC (.int 6))))) bNil)))
def m__law_sort : FS := ⟨ps__law_sort.length, [], runB N__law_sort.length ps__law_sort.length [] B__law_sort⟩
@[simp] theorem np__law_sort : m__law_sort.np = 1 := nr rfl
theorem me__law_sort (ds : List D) : m__law_sort.m ds = runB 1 1 [] B__law_sort ds := nr rfl
theorem c__law_sort (g : G K mg) : CalF P w K mg base (S0 K) 1 "_law_sort" m__law_sort := by
  obtain ⟨fd, F⟩ := g.f__law_sort
  refine cal_of (fn_ev (ow := []) (bor := []) (B := B__law_sort) (fun_of F) sc__law_sort (all_in rfl) (hbl_of rfl) (ho_of rfl) fun cdv A outer s H E hr tk => ?_) g.g__law_sort F.kp (F.bindsN fun _ _ _ _ _ _ us hl => match us, hl with | [_], _ => rfl)
  exact (eb_cons (es_if (EvW.t (ew_or (et_cmp od_is (ev_var (i := 0) (nmem_of rfl) rfl (Or.inl rfl)) ev_non rfl) (ew_or1 (et_truth (ev_isi 1 (by decide) rfl g.b_isinstance rfl g.b_bool (by decide +kernel) (ev_var (i := 0) (nmem_of rfl) rfl (Or.inl rfl))) (fun _ => rfl))))) (eb_cons (es_ret (ev_if (et_cmp od_is (ev_var (i := 0) (nmem_of rfl) rfl (Or.inl rfl)) ev_non rfl) ev_int ev_int))
  eb_nil) eb_nil)
  (eb_cons (es_if (EvW.t (ew_or (et_truth (ev_isi 0 (by decide) rfl g.b_isinstance rfl g.b_int (by decide +kernel) (ev_var (i := 0) (nmem_of rfl) rfl (Or.inl rfl))) (fun _ => rfl)) (ew_or1 (et_truth (ev_isi 2 (by decide) rfl g.b_isinstance rfl g.b_str (by decide +kernel) (ev_var (i := 0) (nmem_of rfl) rfl (Or.inl rfl))) (fun _ => rfl))))) (eb_cons (es_ret (ev_if (et_truth (ev_isi 0 (by decide) rfl g.b_isinstance rfl g.b_int (by decide +kernel) (ev_var (i := 0) (nmem_of rfl) rfl (Or.inl rfl))) (fun _ => rfl)) ev_int ev_int))
  eb_nil) eb_nil)
  (eb_cons (es_ret (ev_if (et_truth (ev_isi 3 (by decide) rfl g.b_isinstance rfl g.b_tuple (by decide +kernel) (ev_var (i := 0) (nmem_of rfl) rfl (Or.inl rfl))) (fun _ => rfl)) ev_int (ev_if (et_truth (ev_isi 4 (by decide) rfl g.b_isinstance rfl g.b_list (by decide +kernel) (ev_var (i := 0) (nmem_of rfl) rfl (Or.inl rfl))) (fun _ => rfl)) ev_int ev_int)))
  eb_nil)))
/-! _law_like -/
abbrev N__law_like : List Str := ["one", "other", "sort", "first", "second"]
abbrev ps__law_like : List Str := ["one", "other"]
theorem sc__law_like : FnScope N__law_like ps__law_like (defScope (top 40)) := ⟨rfl, rfl, rfl, by decide +kernel, rfl, by decide +kernel, by decide +kernel⟩
def B__law_like (rec : FS) : SS :=
  (bCons (sSet 2 (eCall m__law_sort (aCons (eVar 1) aNil))) (bCons (sIf (tOr (tB (eBin dNe (eCall m__law_sort (aCons (eVar 0) aNil)) (eVar 2))) (tB (eBin dEq (eVar 2) (eC (.int 6))))) (bCons (sRet (eC (.bl false))) bNil) bNil) (bCons (sIf (tB (eBin (dIn id) (eVar 2) (eTup (aCons (eC (.int 4)) (aCons (eC (.int 5)) aNil))))) (bCons (sRet (eAnd (eBin dEq (eBlt bLen (aCons (eVar 0) aNil)) (eBlt bLen (aCons (eVar 1) aNil))) (eBin dEq (eF (fLc [3, 4] (iRng zip2 (aCons (eVar 0) (aCons (eVar 1) aNil))) (gTupD 2 (gsCons (gNm 3) (gsCons (gNm 4) gsNil))) (tNot (tTru (eCall rec (aCons (eVar 3) (aCons (eVar 4) aNil))))) (eC (.int 1)))) (eF (fLst aNil))))) bNil) bNil) (bCons (sRet (eBin dEq (eVar 0) (eVar 1))) bNil))))
def mr__law_like : Nat → FS
  | 0 => noF ps__law_like.length []
  | n + 1 => ⟨ps__law_like.length, [], runB N__law_like.length ps__law_like.length [] (B__law_like (mr__law_like n))⟩
theorem bor__law_like : ∀ n, (mr__law_like n).bor = []
  | 0 => rfl
  | _ + 1 => rfl
theorem cr__law_like (g : G K mg) : ∀ n, CalF P w K mg base (S0 K) (1 + n) "_law_like" (mr__law_like n)
  | 0 => by
    obtain ⟨fd, F⟩ := g.f__law_like
    exact cal_of fn_no g.g__law_like F.kp (F.bindsN fun _ _ _ _ _ _ us hl => match us, hl with | [_, _], _ => rfl)
  | n + 1 => by
    obtain ⟨fd, F⟩ := g.f__law_like
    have crec := cr__law_like g n
    refine cal_of (fn_ev (ow := []) (bor := []) (B := B__law_like (mr__law_like n)) (fun_of F) sc__law_like (all_in rfl) (hbl_of rfl) (ho_of rfl) fun cdv A outer s H E hr tk => ?_) g.g__law_like F.kp (F.bindsN fun _ _ _ _ _ _ us hl => match us, hl with | [_, _], _ => rfl)
    exact (eb_cons (es_set (i := 2) (nmem_of rfl) (nmem_of rfl) sc__law_like.nd rfl (Or.inl rfl) (ev_call tk (c__law_sort g) same0 rfl hr (Nat.le_trans (by decide) (Nat.le_add_right _ _)) rfl (ea_cons (ev_var (i := 1) (nmem_of rfl) rfl (Or.inl rfl)) ea_nil)))
  (eb_cons (es_if (EvW.t (ew_or (et_cmp (od_ne (hu64 hr)) (ev_call tk (c__law_sort g) same0 rfl hr (Nat.le_trans (by decide) (Nat.le_add_right _ _)) rfl (ea_cons (ev_var (i := 0) (nmem_of rfl) rfl (Or.inl rfl)) ea_nil)) (ev_var (i := 2) (nmem_of rfl) rfl (Or.inl rfl)) rfl) (ew_or1 (et_cmp (od_eq (hu64 hr)) (ev_var (i := 2) (nmem_of rfl) rfl (Or.inl rfl)) ev_int rfl)))) (eb_cons (es_ret ev_bl)
  eb_nil) eb_nil)
  (eb_cons (es_if (et_cmp (od_in (hu65 hr)) (ev_var (i := 2) (nmem_of rfl) rfl (Or.inl rfl)) (ev_tup (ea_cons ev_int (ea_cons ev_int ea_nil))) rfl) (eb_cons (es_ret (ev_and (ev_cmp (od_eq (hu64 hr)) (ev_blt cd_len rfl g.b_len (by decide +kernel) (ea_cons (ev_var (i := 0) (nmem_of rfl) rfl (Or.inl rfl)) ea_nil)) (ev_blt cd_len rfl g.b_len (by decide +kernel) (ea_cons (ev_var (i := 1) (nmem_of rfl) rfl (Or.inl rfl)) ea_nil)) rfl) (ev_one (ev_cmp (od_eq (hu64 hr)) (ev_f (ef_lcIf (own := [("first", 3), ("second", 4)]) rfl sc__law_like.nd (all_not rfl) (all_not rfl) (all_in rfl) (ei_zip rfl g.b_zip (ea_cons (ev_var (i := 0) (nmem_of rfl) rfl (Or.inl rfl)) (ea_cons (ev_var (i := 1) (nmem_of rfl) rfl (Or.inl rfl)) ea_nil))) (blkOk_by (by rfl)) (fun _ _ _ _ _ => (eg_tup rfl (egs_cons (eg_nm (i := 3) (nmem_of rfl) (nmem_of rfl) sc__law_like.nd rfl (Or.inl rfl)) (egs_cons (eg_nm (i := 4) (nmem_of rfl) (nmem_of rfl) sc__law_like.nd rfl (Or.inl rfl)) egs_nil)))) (fun _ _ _ _ _ => (et_not (et_truth (ev_call takes0 crec same0 (bor__law_like n) hr (Nat.le_refl _) rfl (ea_cons (ev_var (i := 3) (nmem_of rfl) rfl (Or.inl rfl)) (ea_cons (ev_var (i := 4) (nmem_of rfl) rfl (Or.inl rfl)) ea_nil))) (fun _ => rfl)))) (fun _ _ _ _ _ => ev_int))) (ev_f (ef_lst ea_nil)) rfl))))
  eb_nil) eb_nil)
  (eb_cons (es_ret (ev_cmp (od_eq (hu64 hr)) (ev_var (i := 0) (nmem_of rfl) rfl (Or.inl rfl)) (ev_var (i := 1) (nmem_of rfl) rfl (Or.inl rfl)) rfl))
  eb_nil))))
@[simp] theorem npr__law_like : ∀ n, (mr__law_like n).np = 2
  | 0 => rfl
  | _ + 1 => rfl
theorem mer__law_like (n : Nat) (ds : List D) : (mr__law_like (n + 1)).m ds = runB 5 2 [] (B__law_like (mr__law_like n)) ds := nr rfl
def m__law_like : FS := mr__law_like 8
@[simp] theorem np__law_like : m__law_like.np = 2 := nr rfl
theorem c__law_like (g : G K mg) : CalF P w K mg base (S0 K) 9 "_law_like" m__law_like := cr__law_like g 8
/-! fits_pack -/
abbrev N_fits_pack : List Str := ["value", "tablet"]
abbrev ps_fits_pack : List Str := ["value"]
theorem sc_fits_pack : FnScope N_fits_pack ps_fits_pack (defScope (top 15)) := ⟨rfl, rfl, rfl, by decide +kernel, rfl, by decide +kernel, by decide +kernel⟩
def B_fits_pack : SS :=
  (bCons (sRet (eAnd (eCall m_is_tuple_of (aCons (eVar 0) (aCons (eC (.int 1)) (aCons (eC (.int 8)) aNil)))) (eBlt bAll (aCons (eF (fLc [1] (iSeq (eVar 0)) (gNm 1) cYes (eCall m_fits_tablet (aCons (eVar 1) aNil)))) aNil)))) bNil)
def m_fits_pack : FS := ⟨ps_fits_pack.length, [], runB N_fits_pack.length ps_fits_pack.length [] B_fits_pack⟩
@[simp] theorem np_fits_pack : m_fits_pack.np = 1 := nr rfl
theorem me_fits_pack (ds : List D) : m_fits_pack.m ds = runB 2 1 [] B_fits_pack ds := nr rfl
theorem c_fits_pack (g : G K mg) : CalF P w K mg base (S0 K) 4 "fits_pack" m_fits_pack := by
  obtain ⟨fd, F⟩ := g.f_fits_pack
  refine cal_of (fn_ev (ow := []) (bor := []) (B := B_fits_pack) (fun_of F) sc_fits_pack (all_in rfl) (hbl_of rfl) (ho_of rfl) fun cdv A outer s H E hr tk => ?_) g.g_fits_pack F.kp (F.bindsN fun _ _ _ _ _ _ us hl => match us, hl with | [_], _ => rfl)
  exact (eb_cons (es_ret (ev_and (ev_call tk (c_is_tuple_of g) same0 rfl hr (by decide) rfl (ea_cons (ev_var (i := 0) (nmem_of rfl) rfl (Or.inl rfl)) (ea_cons ev_int (ea_cons (ev_gint rfl g.i_TABLETS) ea_nil)))) (ev_one (ev_blt (cd_all rfl) rfl g.b_all (by decide +kernel) (ea_cons (ev_f (ef_lc (own := [("tablet", 1)]) rfl sc_fits_pack.nd (all_not rfl) (all_not rfl) (all_in rfl) (ei_seq (ev_var (i := 0) (nmem_of rfl) rfl (Or.inl rfl))) (blkOk_by (by rfl)) (fun _ _ _ _ _ => (eg_nm (i := 1) (nmem_of rfl) (nmem_of rfl) sc_fits_pack.nd rfl (Or.inl rfl))) (fun _ _ _ _ _ => (ev_call takes0 (c_fits_tablet g) same0 rfl hr (by decide) rfl (ea_cons (ev_var (i := 1) (nmem_of rfl) rfl (Or.inl rfl)) ea_nil))))) ea_nil)))))
  eb_nil)
/-! fits_rows -/
abbrev N_fits_rows : List Str := ["pack", "value", "row", "turn"]
abbrev ps_fits_rows : List Str := ["pack", "value"]
theorem sc_fits_rows : FnScope N_fits_rows ps_fits_rows (defScope (top 18)) := ⟨rfl, rfl, rfl, by decide +kernel, rfl, by decide +kernel, by decide +kernel⟩
def B_fits_rows : SS :=
  (bCons (sIf (tOr (tNot (tTru (eCall m_is_tuple_of (aCons (eVar 1) (aCons (eC (.int 0)) (aCons (eC (.int 40)) aNil)))))) (tNot (tTru (eBlt bAll (aCons (eF (fLc [2] (iSeq (eVar 1)) (gNm 2) cYes (eCall m_is_tuple_of (aCons (eVar 2) (aCons (eBlt bLen (aCons (eVar 0) aNil)) (aCons (eBlt bLen (aCons (eVar 0) aNil)) aNil)))))) aNil))))) (bCons (sRet (eC (.bl false))) bNil) bNil) (bCons (sRet (eBlt bAll (aCons (eF (fLc [2] (iSeq (eVar 1)) (gNm 2) cYes (eBlt bAll (aCons (eF (fLc [3] (iSeq (eVar 2)) (gNm 3) cYes (eCall m_is_turn (aCons (eVar 3) aNil)))) aNil)))) aNil))) bNil))
def m_fits_rows : FS := ⟨ps_fits_rows.length, [], runB N_fits_rows.length ps_fits_rows.length [] B_fits_rows⟩
@[simp] theorem np_fits_rows : m_fits_rows.np = 2 := nr rfl
theorem me_fits_rows (ds : List D) : m_fits_rows.m ds = runB 4 2 [] B_fits_rows ds := nr rfl
theorem c_fits_rows (g : G K mg) : CalF P w K mg base (S0 K) 3 "fits_rows" m_fits_rows := by
  obtain ⟨fd, F⟩ := g.f_fits_rows
  refine cal_of (fn_ev (ow := []) (bor := []) (B := B_fits_rows) (fun_of F) sc_fits_rows (all_in rfl) (hbl_of rfl) (ho_of rfl) fun cdv A outer s H E hr tk => ?_) g.g_fits_rows F.kp (F.bindsN fun _ _ _ _ _ _ us hl => match us, hl with | [_, _], _ => rfl)
  exact (eb_cons (es_if (EvW.t (ew_or (et_not (et_truth (ev_call tk (c_is_tuple_of g) same0 rfl hr (by decide) rfl (ea_cons (ev_var (i := 1) (nmem_of rfl) rfl (Or.inl rfl)) (ea_cons ev_int (ea_cons (ev_gint rfl g.i_ROWS) ea_nil)))) (fun _ => rfl))) (ew_or1 (et_not (et_truth (ev_blt (cd_all rfl) rfl g.b_all (by decide +kernel) (ea_cons (ev_f (ef_lc (own := [("row", 2)]) rfl sc_fits_rows.nd (all_not rfl) (all_not rfl) (all_in rfl) (ei_seq (ev_var (i := 1) (nmem_of rfl) rfl (Or.inl rfl))) (blkOk_by (by rfl)) (fun _ _ _ _ _ => (eg_nm (i := 2) (nmem_of rfl) (nmem_of rfl) sc_fits_rows.nd rfl (Or.inl rfl))) (fun _ _ _ _ _ => (ev_call takes0 (c_is_tuple_of g) same0 rfl hr (by decide) rfl (ea_cons (ev_var (i := 2) (nmem_of rfl) rfl (Or.inl rfl)) (ea_cons (ev_blt cd_len rfl g.b_len (by decide +kernel) (ea_cons (ev_var (i := 0) (nmem_of rfl) rfl (Or.inr (Or.inl rfl))) ea_nil)) (ea_cons (ev_blt cd_len rfl g.b_len (by decide +kernel) (ea_cons (ev_var (i := 0) (nmem_of rfl) rfl (Or.inr (Or.inl rfl))) ea_nil)) ea_nil))))))) ea_nil)) (fun _ => rfl)))))) (eb_cons (es_ret ev_bl)
  eb_nil) eb_nil)
  (eb_cons (es_ret (ev_blt (cd_all rfl) rfl g.b_all (by decide +kernel) (ea_cons (ev_f (ef_lc (own := [("row", 2)]) rfl sc_fits_rows.nd (all_not rfl) (all_not rfl) (all_in rfl) (ei_seq (ev_var (i := 1) (nmem_of rfl) rfl (Or.inl rfl))) (blkOk_by (by rfl)) (fun _ _ _ _ _ => (eg_nm (i := 2) (nmem_of rfl) (nmem_of rfl) sc_fits_rows.nd rfl (Or.inl rfl))) (fun _ _ _ _ _ => (ev_blt (cd_all rfl) rfl g.b_all (by decide +kernel) (ea_cons (ev_f (ef_lc (own := [("turn", 3)]) rfl sc_fits_rows.nd (all_not rfl) (all_not rfl) (all_in rfl) (ei_seq (ev_var (i := 2) (nmem_of rfl) rfl (Or.inl rfl))) (blkOk_by (by rfl)) (fun _ _ _ _ _ => (eg_nm (i := 3) (nmem_of rfl) (nmem_of rfl) sc_fits_rows.nd rfl (Or.inl rfl))) (fun _ _ _ _ _ => (ev_call takes0 (c_is_turn g) same0 rfl hr (by decide) rfl (ea_cons (ev_var (i := 3) (nmem_of rfl) rfl (Or.inl rfl)) ea_nil))))) ea_nil))))) ea_nil)))
  eb_nil))
/-! turns_in -/
abbrev N_turns_in : List Str := ["rows", "at", "row"]
abbrev ps_turns_in : List Str := ["rows", "at"]
theorem sc_turns_in : FnScope N_turns_in ps_turns_in (defScope (top 22)) := ⟨rfl, rfl, rfl, by decide +kernel, rfl, by decide +kernel, by decide +kernel⟩
def B_turns_in : SS :=
  (bCons (sRet (eBlt bTup (aCons (eF (fLc [2] (iSeq (eVar 0)) (gNm 2) cYes (eBin dIx (eVar 2) (eVar 1)))) aNil))) bNil)
def m_turns_in : FS := ⟨ps_turns_in.length, [], runB N_turns_in.length ps_turns_in.length [] B_turns_in⟩
@[simp] theorem np_turns_in : m_turns_in.np = 2 := nr rfl
theorem me_turns_in (ds : List D) : m_turns_in.m ds = runB 3 2 [] B_turns_in ds := nr rfl
theorem c_turns_in (g : G K mg) : CalF P w K mg base (S0 K) 1 "turns_in" m_turns_in := by
  obtain ⟨fd, F⟩ := g.f_turns_in
  refine cal_of (fn_ev (ow := []) (bor := []) (B := B_turns_in) (fun_of F) sc_turns_in (all_in rfl) (hbl_of rfl) (ho_of rfl) fun cdv A outer s H E hr tk => ?_) g.g_turns_in F.kp (F.bindsN fun _ _ _ _ _ _ us hl => match us, hl with | [_, _], _ => rfl)
  exact (eb_cons (es_ret (ev_ty cd_tup rfl g.b_tuple (by decide +kernel) (ea_cons (ev_f (ef_lc (own := [("row", 2)]) rfl sc_turns_in.nd (all_not rfl) (all_not rfl) (all_in rfl) (ei_seq (ev_var (i := 0) (nmem_of rfl) rfl (Or.inl rfl))) (blkOk_by (by rfl)) (fun _ _ _ _ _ => (eg_nm (i := 2) (nmem_of rfl) (nmem_of rfl) sc_turns_in.nd rfl (Or.inl rfl))) (fun _ _ _ _ _ => (ev_ix (fun _ _ => rfl) ix_all (ev_var (i := 2) (nmem_of rfl) rfl (Or.inl rfl)) (ev_var (i := 1) (nmem_of rfl) rfl (Or.inr (Or.inl rfl))))))) ea_nil)))
  eb_nil)
/-! shown_picture -/
abbrev N_shown_picture : List Str := ["pack", "rows", "columns", "at", "tablet", "hole", "row", "column"]
abbrev ps_shown_picture : List Str := ["pack", "rows"]
theorem sc_shown_picture : FnScope N_shown_picture ps_shown_picture (defScope (top 32)) := ⟨rfl, rfl, rfl, by decide +kernel, rfl, by decide +kernel, by decide +kernel⟩
def B_shown_picture : SS :=
  (bCons (sExpr (eCall m_need (aCons (eCall m_fits_pack (aCons (eVar 0) aNil)) aNil))) (bCons (sExpr (eCall m_need (aCons (eCall m_fits_rows (aCons (eVar 0) (aCons (eVar 1) aNil))) aNil))) (bCons (sSet 2 (eF (fLc [3, 4] (iRng enum1 (aCons (eVar 0) aNil)) (gTupD 2 (gsCons (gNm 3) (gsCons (gNm 4) gsNil))) cYes (eF (fLc [5] (iSeq (eBin dIx (eCall m_holes_of (aCons (eCall m_turns_in (aCons (eVar 1) (aCons (eVar 3) aNil))) aNil)) (eC (.int 0)))) (gNm 5) cYes (eBin dIx (eBin dIx (eVar 4) (eC (.int 1))) (eVar 5))))))) (bCons (sRet (eBlt bTup (aCons (eF (fLc [6] (iRng rng1 (aCons (eBlt bLen (aCons (eVar 1) aNil)) aNil)) (gNm 6) cYes (eBlt bTup (aCons (eF (fLc [7] (iSeq (eVar 2)) (gNm 7) cYes (eBin dIx (eVar 7) (eVar 6)))) aNil)))) aNil))) bNil))))
def m_shown_picture : FS := ⟨ps_shown_picture.length, [], runB N_shown_picture.length ps_shown_picture.length [] B_shown_picture⟩
@[simp] theorem np_shown_picture : m_shown_picture.np = 2 := nr rfl
theorem me_shown_picture (ds : List D) : m_shown_picture.m ds = runB 8 2 [] B_shown_picture ds := nr rfl
theorem c_shown_picture (g : G K mg) : CalF P w K mg base (S0 K) 5 "shown_picture" m_shown_picture := by
  obtain ⟨fd, F⟩ := g.f_shown_picture
  refine cal_of (fn_ev (ow := []) (bor := []) (B := B_shown_picture) (fun_of F) sc_shown_picture (all_in rfl) (hbl_of rfl) (ho_of rfl) fun cdv A outer s H E hr tk => ?_) g.g_shown_picture F.kp (F.bindsN fun _ _ _ _ _ _ us hl => match us, hl with | [_, _], _ => rfl)
  exact (eb_cons (es_expr (ev_call tk (c_need g) same0 rfl hr (by decide) rfl (ea_cons (ev_call tk (c_fits_pack g) same0 rfl hr (by decide) rfl (ea_cons (ev_var (i := 0) (nmem_of rfl) rfl (Or.inl rfl)) ea_nil)) ea_nil)))
  (eb_cons (es_expr (ev_call tk (c_need g) same0 rfl hr (by decide) rfl (ea_cons (ev_call tk (c_fits_rows g) same0 rfl hr (by decide) rfl (ea_cons (ev_var (i := 0) (nmem_of rfl) rfl (Or.inl rfl)) (ea_cons (ev_var (i := 1) (nmem_of rfl) rfl (Or.inr (Or.inl rfl))) ea_nil))) ea_nil)))
  (eb_cons (es_set (i := 2) (nmem_of rfl) (nmem_of rfl) sc_shown_picture.nd rfl (Or.inr rfl) (ev_f (ef_lc (own := [("at", 3), ("tablet", 4)]) rfl sc_shown_picture.nd (all_not rfl) (all_not rfl) (all_in rfl) (ei_enum rfl g.b_enumerate (ea_cons (ev_var (i := 0) (nmem_of rfl) rfl (Or.inl rfl)) ea_nil)) (blkOk_by (by rfl)) (fun _ _ _ _ _ => (eg_tup rfl (egs_cons (eg_nm (i := 3) (nmem_of rfl) (nmem_of rfl) sc_shown_picture.nd rfl (Or.inl rfl)) (egs_cons (eg_nm (i := 4) (nmem_of rfl) (nmem_of rfl) sc_shown_picture.nd rfl (Or.inr rfl)) egs_nil)))) (fun _ _ _ _ _ => (ev_f (ef_lc (own := [("hole", 5)]) rfl sc_shown_picture.nd (all_not rfl) (all_not rfl) (all_in rfl) (ei_seq (ev_ix (fun _ _ => rfl) ix_all (ev_call takes0 (c_holes_of g) same0 rfl hr (by decide) rfl (ea_cons (ev_call takes0 (c_turns_in g) same0 rfl hr (by decide) rfl (ea_cons (ev_var (i := 1) (nmem_of rfl) rfl (Or.inr (Or.inl rfl))) (ea_cons (ev_var (i := 3) (nmem_of rfl) rfl (Or.inl rfl)) ea_nil))) ea_nil)) ev_int)) (blkOk_by (by rfl)) (fun _ _ _ _ _ => (eg_nm (i := 5) (nmem_of rfl) (nmem_of rfl) sc_shown_picture.nd rfl (Or.inl rfl))) (fun _ _ _ _ _ => (ev_ix (fun _ _ => rfl) ix_all (ev_ix (fun _ _ => rfl) ix_all (ev_var (i := 4) (nmem_of rfl) rfl (Or.inr (Or.inl rfl))) ev_int) (ev_var (i := 5) (nmem_of rfl) rfl (Or.inl rfl))))))))))
  (eb_cons (es_ret (ev_ty cd_tup rfl g.b_tuple (by decide +kernel) (ea_cons (ev_f (ef_lc (own := [("row", 6)]) rfl sc_shown_picture.nd (all_not rfl) (all_not rfl) (all_in rfl) (ei_range1 rfl g.b_range (ea_cons (ev_blt cd_len rfl g.b_len (by decide +kernel) (ea_cons (ev_var (i := 1) (nmem_of rfl) rfl (Or.inr (Or.inl rfl))) ea_nil)) ea_nil)) (blkOk_by (by rfl)) (fun _ _ _ _ _ => (eg_nm (i := 6) (nmem_of rfl) (nmem_of rfl) sc_shown_picture.nd rfl (Or.inr rfl))) (fun _ _ _ _ _ => (ev_ty cd_tup rfl g.b_tuple (by decide +kernel) (ea_cons (ev_f (ef_lc (own := [("column", 7)]) rfl sc_shown_picture.nd (all_not rfl) (all_not rfl) (all_in rfl) (ei_seq (ev_var (i := 2) (nmem_of rfl) rfl (Or.inr (Or.inl rfl)))) (blkOk_by (by rfl)) (fun _ _ _ _ _ => (eg_nm (i := 7) (nmem_of rfl) (nmem_of rfl) sc_shown_picture.nd rfl (Or.inl rfl))) (fun _ _ _ _ _ => (ev_ix (fun _ _ => rfl) ix_all (ev_var (i := 7) (nmem_of rfl) rfl (Or.inl rfl)) (ev_var (i := 6) (nmem_of rfl) rfl (Or.inr (Or.inl rfl))))))) ea_nil))))) ea_nil)))
  eb_nil))))
/-! leans_of -/
abbrev N_leans_of : List Str := ["pack", "rows", "found", "row", "tablet", "turn"]
abbrev ps_leans_of : List Str := ["pack", "rows"]
theorem sc_leans_of : FnScope N_leans_of ps_leans_of (defScope (top 33)) := ⟨rfl, rfl, rfl, by decide +kernel, rfl, by decide +kernel, by decide +kernel⟩
def B_leans_of : SS :=
  (bCons (sExpr (eCall m_need (aCons (eCall m_fits_pack (aCons (eVar 0) aNil)) aNil))) (bCons (sExpr (eCall m_need (aCons (eCall m_fits_rows (aCons (eVar 0) (aCons (eVar 1) aNil))) aNil))) (bCons (sSetF 2 (fLst aNil)) (bCons (sFor (iSeq (eVar 1)) (gNm 3) (bCons (sExpr (eApp (ePlc 2) (eJoin (eC (.str [])) (eF (fLc [4, 5] (iRng zip2 (aCons (eVar 0) (aCons (eVar 3) aNil))) (gTupD 2 (gsCons (gNm 4) (gsCons (gNm 5) gsNil))) cYes (eIf (tB (eBin dEq (eBin dEq (eBin dIx (eVar 4) (eC (.int 0))) (eC (.str [115]))) (eBin dGT (eVar 5) (eC (.int 0))))) (eC (.str [47])) (eC (.str [45])))))))) bNil)) (bFrz 2 (bCons (sRet (eBlt bTup (aCons (eVar 2) aNil))) bNil))))))
def m_leans_of : FS := ⟨ps_leans_of.length, [], runB N_leans_of.length ps_leans_of.length [] B_leans_of⟩
@[simp] theorem np_leans_of : m_leans_of.np = 2 := nr rfl
theorem me_leans_of (ds : List D) : m_leans_of.m ds = runB 6 2 [] B_leans_of ds := nr rfl
theorem c_leans_of (g : G K mg) : CalF P w K mg base (S0 K) 5 "leans_of" m_leans_of := by
  obtain ⟨fd, F⟩ := g.f_leans_of
  refine cal_of (fn_ev (ow := [2]) (bor := []) (B := B_leans_of) (fun_of F) sc_leans_of (all_in rfl) (hbl_of rfl) (ho_of rfl) fun cdv A outer s H E hr tk => ?_) g.g_leans_of F.kp (F.bindsN fun _ _ _ _ _ _ us hl => match us, hl with | [_, _], _ => rfl)
  exact (eb_cons (es_expr (ev_call tk (c_need g) same0 rfl hr (by decide) rfl (ea_cons (ev_call tk (c_fits_pack g) same0 rfl hr (by decide) rfl (ea_cons (ev_var (i := 0) (nmem_of rfl) rfl (Or.inl rfl)) ea_nil)) ea_nil)))
  (eb_cons (es_expr (ev_call tk (c_need g) same0 rfl hr (by decide) rfl (ea_cons (ev_call tk (c_fits_rows g) same0 rfl hr (by decide) rfl (ea_cons (ev_var (i := 0) (nmem_of rfl) rfl (Or.inl rfl)) (ea_cons (ev_var (i := 1) (nmem_of rfl) rfl (Or.inl rfl)) ea_nil))) ea_nil)))
  (eb_cons (es_setF (i := 2) (mem_of rfl) (nmem_of rfl) sc_leans_of.nd rfl (Or.inl rfl) (ef_lst ea_nil))
  (eb_cons (es_for (passes_of rfl) rfl (ei_seq (ev_var (i := 1) (nmem_of rfl) rfl (Or.inl rfl))) (eg_nm (i := 3) (nmem_of rfl) (nmem_of rfl) sc_leans_of.nd rfl (Or.inl rfl)) (eb_cons (es_expr (ev_app (ev_plc (i := 2) (mem_of rfl) rfl (Or.inl rfl)) (ev_join (ev_str []) (ev_f (ef_lc (own := [("tablet", 4), ("turn", 5)]) rfl sc_leans_of.nd (all_not rfl) (all_not rfl) (all_in rfl) (ei_zip rfl g.b_zip (ea_cons (ev_var (i := 0) (nmem_of rfl) rfl (Or.inl rfl)) (ea_cons (ev_var (i := 3) (nmem_of rfl) rfl (Or.inl rfl)) ea_nil))) (blkOk_by (by rfl)) (fun _ _ _ _ _ => (eg_tup rfl (egs_cons (eg_nm (i := 4) (nmem_of rfl) (nmem_of rfl) sc_leans_of.nd rfl (Or.inl rfl)) (egs_cons (eg_nm (i := 5) (nmem_of rfl) (nmem_of rfl) sc_leans_of.nd rfl (Or.inl rfl)) egs_nil)))) (fun _ _ _ _ _ => (ev_if (et_cmp (od_eq (hu64 hr)) (ev_cmp (od_eq (hu64 hr)) (ev_ix (fun _ _ => rfl) ix_all (ev_var (i := 4) (nmem_of rfl) rfl (Or.inl rfl)) ev_int) (ev_str [115]) rfl) (ev_cmp (od_GT (hu64 hr)) (ev_var (i := 5) (nmem_of rfl) rfl (Or.inl rfl)) ev_int rfl) rfl) (ev_str [47]) (ev_str [45]))))))))
  eb_nil))
  (eb_frz (i := 2) (ow' := []) (frz_of rfl) (nmem_of rfl) (nmem_of rfl)
  (eb_cons (es_ret (ev_ty cd_tup rfl g.b_tuple (by decide +kernel) (ea_cons (ev_var (i := 2) (nmem_of rfl) rfl (Or.inl rfl)) ea_nil)))
  eb_nil))))))
/-! twists_of -/
abbrev N_twists_of : List Str := ["pack", "rows", "at"]
abbrev ps_twists_of : List Str := ["pack", "rows"]
theorem sc_twists_of : FnScope N_twists_of ps_twists_of (defScope (top 34)) := ⟨rfl, rfl, rfl, by decide +kernel, rfl, by decide +kernel, by decide +kernel⟩
def B_twists_of : SS :=
  (bCons (sExpr (eCall m_need (aCons (eCall m_fits_pack (aCons (eVar 0) aNil)) aNil))) (bCons (sExpr (eCall m_need (aCons (eCall m_fits_rows (aCons (eVar 0) (aCons (eVar 1) aNil))) aNil))) (bCons (sRet (eBlt bTup (aCons (eF (fLc [2] (iRng rng1 (aCons (eBlt bLen (aCons (eVar 0) aNil)) aNil)) (gNm 2) cYes (eBlt bSumA (aCons (eCall m_turns_in (aCons (eVar 1) (aCons (eVar 2) aNil))) aNil)))) aNil))) bNil)))
def m_twists_of : FS := ⟨ps_twists_of.length, [], runB N_twists_of.length ps_twists_of.length [] B_twists_of⟩
@[simp] theorem np_twists_of : m_twists_of.np = 2 := nr rfl
theorem me_twists_of (ds : List D) : m_twists_of.m ds = runB 3 2 [] B_twists_of ds := nr rfl
theorem c_twists_of (g : G K mg) : CalF P w K mg base (S0 K) 5 "twists_of" m_twists_of := by
  obtain ⟨fd, F⟩ := g.f_twists_of
  refine cal_of (fn_ev (ow := []) (bor := []) (B := B_twists_of) (fun_of F) sc_twists_of (all_in rfl) (hbl_of rfl) (ho_of rfl) fun cdv A outer s H E hr tk => ?_) g.g_twists_of F.kp (F.bindsN fun _ _ _ _ _ _ us hl => match us, hl with | [_, _], _ => rfl)
  exact (eb_cons (es_expr (ev_call tk (c_need g) same0 rfl hr (by decide) rfl (ea_cons (ev_call tk (c_fits_pack g) same0 rfl hr (by decide) rfl (ea_cons (ev_var (i := 0) (nmem_of rfl) rfl (Or.inl rfl)) ea_nil)) ea_nil)))
  (eb_cons (es_expr (ev_call tk (c_need g) same0 rfl hr (by decide) rfl (ea_cons (ev_call tk (c_fits_rows g) same0 rfl hr (by decide) rfl (ea_cons (ev_var (i := 0) (nmem_of rfl) rfl (Or.inl rfl)) (ea_cons (ev_var (i := 1) (nmem_of rfl) rfl (Or.inr (Or.inl rfl))) ea_nil))) ea_nil)))
  (eb_cons (es_ret (ev_ty cd_tup rfl g.b_tuple (by decide +kernel) (ea_cons (ev_f (ef_lc (own := [("at", 2)]) rfl sc_twists_of.nd (all_not rfl) (all_not rfl) (all_in rfl) (ei_range1 rfl g.b_range (ea_cons (ev_blt cd_len rfl g.b_len (by decide +kernel) (ea_cons (ev_var (i := 0) (nmem_of rfl) rfl (Or.inl rfl)) ea_nil)) ea_nil)) (blkOk_by (by rfl)) (fun _ _ _ _ _ => (eg_nm (i := 2) (nmem_of rfl) (nmem_of rfl) sc_twists_of.nd rfl (Or.inl rfl))) (fun _ _ _ _ _ => (ev_blt (cd_sumA rfl) rfl g.b_sum (by decide +kernel) (ea_cons (ev_call takes0 (c_turns_in g) same0 rfl hr (by decide) rfl (ea_cons (ev_var (i := 1) (nmem_of rfl) rfl (Or.inr (Or.inl rfl))) (ea_cons (ev_var (i := 2) (nmem_of rfl) rfl (Or.inl rfl)) ea_nil))) ea_nil))))) ea_nil)))
  eb_nil)))
/-! changes_in -/
abbrev N_changes_in : List Str := ["turns", "one", "other"]
abbrev ps_changes_in : List Str := ["turns"]
theorem sc_changes_in : FnScope N_changes_in ps_changes_in (defScope (top 29)) := ⟨rfl, rfl, rfl, by decide +kernel, rfl, by decide +kernel, by decide +kernel⟩
def B_changes_in : SS :=
  (bCons (sRet (eBlt bLen (aCons (eF (fLc [1, 2] (iRng zip2 (aCons (eVar 0) (aCons (eSl (eVar 0) (pSome (eC (.int 1))) pNone) aNil))) (gTupD 2 (gsCons (gNm 1) (gsCons (gNm 2) gsNil))) (tB (eBin dNe (eVar 1) (eVar 2))) (eC (.int 1)))) aNil))) bNil)
def m_changes_in : FS := ⟨ps_changes_in.length, [], runB N_changes_in.length ps_changes_in.length [] B_changes_in⟩
@[simp] theorem np_changes_in : m_changes_in.np = 1 := nr rfl
theorem me_changes_in (ds : List D) : m_changes_in.m ds = runB 3 1 [] B_changes_in ds := nr rfl
theorem c_changes_in (g : G K mg) : CalF P w K mg base (S0 K) 1 "changes_in" m_changes_in := by
  obtain ⟨fd, F⟩ := g.f_changes_in
  refine cal_of (fn_ev (ow := []) (bor := []) (B := B_changes_in) (fun_of F) sc_changes_in (all_in rfl) (hbl_of rfl) (ho_of rfl) fun cdv A outer s H E hr tk => ?_) g.g_changes_in F.kp (F.bindsN fun _ _ _ _ _ _ us hl => match us, hl with | [_], _ => rfl)
  exact (eb_cons (es_ret (ev_blt cd_len rfl g.b_len (by decide +kernel) (ea_cons (ev_f (ef_lcIf (own := [("one", 1), ("other", 2)]) rfl sc_changes_in.nd (all_not rfl) (all_not rfl) (all_in rfl) (ei_zip rfl g.b_zip (ea_cons (ev_var (i := 0) (nmem_of rfl) rfl (Or.inl rfl)) (ea_cons (ev_slice (ev_var (i := 0) (nmem_of rfl) rfl (Or.inl rfl)) (ep_some ev_int) ep_none) ea_nil))) (blkOk_by (by rfl)) (fun _ _ _ _ _ => (eg_tup rfl (egs_cons (eg_nm (i := 1) (nmem_of rfl) (nmem_of rfl) sc_changes_in.nd rfl (Or.inl rfl)) (egs_cons (eg_nm (i := 2) (nmem_of rfl) (nmem_of rfl) sc_changes_in.nd rfl (Or.inl rfl)) egs_nil)))) (fun _ _ _ _ _ => (et_cmp (od_ne (hu64 hr)) (ev_var (i := 1) (nmem_of rfl) rfl (Or.inl rfl)) (ev_var (i := 2) (nmem_of rfl) rfl (Or.inl rfl)) rfl)) (fun _ _ _ _ _ => ev_int))) ea_nil)))
  eb_nil)
/-! changes_of -/
abbrev N_changes_of : List Str := ["turns"]
abbrev ps_changes_of : List Str := ["turns"]
theorem sc_changes_of : FnScope N_changes_of ps_changes_of (defScope (top 30)) := ⟨rfl, rfl, rfl, by decide +kernel, rfl, by decide +kernel, by decide +kernel⟩
def B_changes_of : SS :=
  (bCons (sExpr (eCall m_need (aCons (eCall m_fits_turns (aCons (eVar 0) aNil)) aNil))) (bCons (sRet (eCall m_changes_in (aCons (eVar 0) aNil))) bNil))
def m_changes_of : FS := ⟨ps_changes_of.length, [], runB N_changes_of.length ps_changes_of.length [] B_changes_of⟩
@[simp] theorem np_changes_of : m_changes_of.np = 1 := nr rfl
theorem me_changes_of (ds : List D) : m_changes_of.m ds = runB 1 1 [] B_changes_of ds := nr rfl
theorem c_changes_of (g : G K mg) : CalF P w K mg base (S0 K) 4 "changes_of" m_changes_of := by
  obtain ⟨fd, F⟩ := g.f_changes_of
  refine cal_of (fn_ev (ow := []) (bor := []) (B := B_changes_of) (fun_of F) sc_changes_of (all_in rfl) (hbl_of rfl) (ho_of rfl) fun cdv A outer s H E hr tk => ?_) g.g_changes_of F.kp (F.bindsN fun _ _ _ _ _ _ us hl => match us, hl with | [_], _ => rfl)
  exact (eb_cons (es_expr (ev_call tk (c_need g) same0 rfl hr (by decide) rfl (ea_cons (ev_call tk (c_fits_turns g) same0 rfl hr (by decide) rfl (ea_cons (ev_var (i := 0) (nmem_of rfl) rfl (Or.inl rfl)) ea_nil)) ea_nil)))
  (eb_cons (es_ret (ev_call tk (c_changes_in g) same0 rfl hr (by decide) rfl (ea_cons (ev_var (i := 0) (nmem_of rfl) rfl (Or.inl rfl)) ea_nil)))
  eb_nil))
/-! float_of -/
abbrev N_float_of : List Str := ["turns", "best", "here", "last", "hole"]
abbrev ps_float_of : List Str := ["turns"]
theorem sc_float_of : FnScope N_float_of ps_float_of (defScope (top 31)) := ⟨rfl, rfl, rfl, by decide +kernel, rfl, by decide +kernel, by decide +kernel⟩
def B_float_of : SS :=
  (bCons (sExpr (eCall m_need (aCons (eCall m_fits_turns (aCons (eVar 0) aNil)) aNil))) (bCons (sAsgN (gTupD 3 (gsCons (gNm 1) (gsCons (gNm 2) (gsCons (gNm 3) gsNil)))) (eTup (aCons (eC (.int 0)) (aCons (eC (.int 0)) (aCons (eC .non) aNil))))) (bCons (sFor (iSeq (eBin dIx (eCall m_holes_of (aCons (eVar 0) aNil)) (eC (.int 0)))) (gNm 4) (bCons (sPar [(2, false), (3, false)] (qVal (eIf (tB (eBin dEq (eVar 4) (eVar 3))) (eBin dAdd (eVar 2) (eC (.int 1))) (eC (.int 1))) (qVal (eVar 4) qNil))) (bCons (sSet 1 (eBlt bMax2 (aCons (eVar 1) (aCons (eVar 2) aNil)))) bNil))) (bCons (sRet (eVar 1)) bNil))))
def m_float_of : FS := ⟨ps_float_of.length, [], runB N_float_of.length ps_float_of.length [] B_float_of⟩
@[simp] theorem np_float_of : m_float_of.np = 1 := nr rfl
theorem me_float_of (ds : List D) : m_float_of.m ds = runB 5 1 [] B_float_of ds := nr rfl
theorem c_float_of (g : G K mg) : CalF P w K mg base (S0 K) 4 "float_of" m_float_of := by
  obtain ⟨fd, F⟩ := g.f_float_of
  refine cal_of (fn_ev (ow := []) (bor := []) (B := B_float_of) (fun_of F) sc_float_of (all_in rfl) (hbl_of rfl) (ho_of rfl) fun cdv A outer s H E hr tk => ?_) g.g_float_of F.kp (F.bindsN fun _ _ _ _ _ _ us hl => match us, hl with | [_], _ => rfl)
  exact (eb_cons (es_expr (ev_call tk (c_need g) same0 rfl hr (by decide) rfl (ea_cons (ev_call tk (c_fits_turns g) same0 rfl hr (by decide) rfl (ea_cons (ev_var (i := 0) (nmem_of rfl) rfl (Or.inl rfl)) ea_nil)) ea_nil)))
  (eb_cons (es_asg (ev_tup (ea_cons ev_int (ea_cons ev_int (ea_cons ev_non ea_nil)))) (eg_tup rfl (egs_cons (eg_nm (i := 1) (nmem_of rfl) (nmem_of rfl) sc_float_of.nd rfl (Or.inl rfl)) (egs_cons (eg_nm (i := 2) (nmem_of rfl) (nmem_of rfl) sc_float_of.nd rfl (Or.inl rfl)) (egs_cons (eg_nm (i := 3) (nmem_of rfl) (nmem_of rfl) sc_float_of.nd rfl (Or.inl rfl)) egs_nil)))))
  (eb_cons (es_for (passes_of rfl) rfl (ei_seq (ev_ix (fun _ _ => rfl) ix_all (ev_call tk (c_holes_of g) same0 rfl hr (by decide) rfl (ea_cons (ev_var (i := 0) (nmem_of rfl) rfl (Or.inl rfl)) ea_nil)) ev_int)) (eg_nm (i := 4) (nmem_of rfl) (nmem_of rfl) sc_float_of.nd rfl (Or.inl rfl)) (eb_cons (es_par2 (okT_of rfl) rfl sc_float_of.nd rfl rfl (by decide) rfl rfl (eq_val (ev_if (et_cmp (od_eq (hu64 hr)) (ev_var (i := 4) (nmem_of rfl) rfl (Or.inl rfl)) (ev_var (i := 3) (nmem_of rfl) rfl (Or.inl rfl)) rfl) (ev_bin od_add (ev_var (i := 2) (nmem_of rfl) rfl (Or.inl rfl)) ev_int) ev_int) (eq_val (ev_var (i := 4) (nmem_of rfl) rfl (Or.inl rfl)) eq_nil)) (by rfl))
  (eb_cons (es_set (i := 1) (nmem_of rfl) (nmem_of rfl) sc_float_of.nd rfl (Or.inl rfl) (ev_blt (cd_max2 rfl) rfl g.b_max (by decide +kernel) (ea_cons (ev_var (i := 1) (nmem_of rfl) rfl (Or.inl rfl)) (ea_cons (ev_var (i := 2) (nmem_of rfl) rfl (Or.inl rfl)) ea_nil))))
  eb_nil)))
  (eb_cons (es_ret (ev_var (i := 1) (nmem_of rfl) rfl (Or.inl rfl)))
  eb_nil))))
/-! _law_written -/
abbrev N__law_written : List Str := ["cup", "one", "two", "told", "rows", "many", "turns", "column", "due", "eight"]
abbrev ps__law_written : List Str := ["cup"]
theorem sc__law_written : FnScope N__law_written ps__law_written (defScope (top 53)) := ⟨rfl, rfl, rfl, by decide +kernel, rfl, by decide +kernel, by decide +kernel⟩
def T__law_written_8 : SS :=
  (bCons (sSet 6 (eBin dAdd (eBin dMul (eTup (aCons (eC (.int 1)) aNil)) (eVar 5)) (eBin dMul (eTup (aCons (eUn dNeg (eC (.int 1))) aNil)) (eVar 5)))) (bCons (sSet 7 (eCall m_column_of (aCons (eVar 1) (aCons (eVar 6) aNil)))) (bCons (sSet 3 (eF (fLst (aCons (eSl (eVar 7) (pSome (eVar 5)) pNone) (aCons (eCall m_top_of (aCons (eVar 6) aNil)) (aCons (eCall m_twist_of (aCons (eVar 6) aNil)) (aCons (eCall m_changes_of (aCons (eVar 6) aNil)) (aCons (eCall m_float_of (aCons (eVar 6) aNil)) (aCons (eCall m_top_of (aCons (eBin dMul (eTup (aCons (eUn dNeg (eC (.int 1))) aNil)) (eBin dMul (eC (.int 2)) (eVar 5))) aNil)) (aCons (eCall m_twist_of (aCons (eBin dMul (eTup (aCons (eC (.int 1)) aNil)) (eC (.int 40))) aNil)) aNil)))))))))) (bCons (sSet 8 (eF (fLst (aCons (eUn dRev (eSl (eVar 7) pNone (pSome (eVar 5)))) (aCons (eC (.int 0)) (aCons (eC (.int 0)) (aCons (eIf (tB (eBin dGT (eVar 5) (eC (.int 0)))) (eC (.int 1)) (eC (.int 0))) (aCons (eIf (tB (eBin dGT (eVar 5) (eC (.int 0)))) (eC (.int 2)) (eC (.int 0))) (aCons (eBin dSub (eBin dSub (eC (.int 0)) (eBin dMul (eC (.int 2)) (eVar 5))) (eBin dMul (eBin dDiv (eBin dSub (eC (.int 0)) (eBin dMul (eC (.int 2)) (eVar 5))) (eC (.int 4))) (eC (.int 4)))) (aCons (eC (.int 40)) aNil)))))))))) (bCons (sPar [(3, false), (8, false)] (qVal (eBin dAdd (eVar 3) (eF (fLst (aCons (eCall m_float_of (aCons (eBin dMul (eTup (aCons (eC (.int 1)) (aCons (eUn dNeg (eC (.int 1))) aNil))) (eC (.int 20))) aNil)) (aCons (eCall m_float_of (aCons (eBin dAdd (eBin dMul (eTup (aCons (eC (.int 1)) aNil)) (eC (.int 7))) (eBin dMul (eTup (aCons (eC (.int 1)) (aCons (eUn dNeg (eC (.int 1))) aNil))) (eC (.int 15)))) aNil)) aNil))))) (qVal (eBin dAdd (eVar 8) (eF (fLst (aCons (eC (.int 40)) (aCons (eC (.int 30)) aNil))))) qNil))) (bCons (sSet 9 (eBin dMul (eTup (aCons (eVar 1) (aCons (eVar 2) aNil))) (eC (.int 4)))) (bCons (sRet (eAnd (eCall m__law_like (aCons (eVar 3) (aCons (eVar 8) aNil))) (eAnd (eBin dEq (eBin dIx (eCall m_shown_picture (aCons (eVar 9) (aCons (eBin dMul (eTup (aCons (eBin dMul (eTup (aCons (eC (.int 1)) aNil)) (eC (.int 8))) aNil)) (eC (.int 40))) aNil))) (eC (.int 39))) (eBin dMul (eTup (aCons (eC (.str [100])) (aCons (eC (.str [98])) aNil))) (eC (.int 4)))) (eBin dEq (eCall m_leans_of (aCons (eVar 9) (aCons (eTup (aCons (eBin dMul (eTup (aCons (eUn dNeg (eC (.int 1))) aNil)) (eC (.int 8))) aNil)) aNil))) (eTup (aCons (eBin dMul (eC (.str [45, 47])) (eC (.int 4))) aNil)))))) bNil)))))))
def T__law_written_7 : SS :=
  (bCons (sSet 5 (eCallC m__law_roll (aCons (ePlc 0) (aCons (eC (.int 21)) aNil)))) T__law_written_8)
def H__law_written_8 (T : SS) : SS :=
  (bCons (sSet 5 (eCallC m__law_roll (aCons (ePlc 0) (aCons (eC (.int 21)) aNil)))) T)
def H__law_written_7 (T : SS) : SS :=
  (bCons (sAsgN (gTupD 2 (gsCons (gNm 1) (gsCons (gNm 2) gsNil))) (eTup (aCons (eTup (aCons (eC (.str [115])) (aCons (eTup (aCons (eC (.str [97])) (aCons (eC (.str [98])) (aCons (eC (.str [99])) (aCons (eC (.str [100])) aNil))))) aNil))) (aCons (eTup (aCons (eC (.str [122])) (aCons (eTup (aCons (eC (.str [97])) (aCons (eC (.str [97])) (aCons (eC (.str [98])) (aCons (eC (.str [98])) aNil))))) aNil))) aNil)))) (bCons (sSet 3 (eF (fLst (aCons (eCall m_is_tablet (aCons (eVar 1) aNil)) (aCons (eCall m_is_tablet (aCons (eTup (aCons (eC (.str [120])) (aCons (eBin dIx (eVar 1) (eC (.int 1))) aNil))) aNil)) (aCons (eCall m_column_of (aCons (eVar 1) (aCons (eTup (aCons (eC (.int 1)) (aCons (eC (.int 1)) (aCons (eC (.int 1)) (aCons (eC (.int 1)) (aCons (eC (.int 1)) aNil)))))) aNil))) (aCons (eCall m_column_of (aCons (eVar 1) (aCons (eTup (aCons (eC (.int 1)) (aCons (eUn dNeg (eC (.int 1))) (aCons (eUn dNeg (eC (.int 1))) aNil)))) aNil))) (aCons (eCall m_top_of (aCons (eTup (aCons (eC (.int 1)) (aCons (eC (.int 1)) (aCons (eUn dNeg (eC (.int 1))) aNil)))) aNil)) (aCons (eCall m_twist_of (aCons (eTup (aCons (eC (.int 1)) (aCons (eC (.int 1)) (aCons (eUn dNeg (eC (.int 1))) aNil)))) aNil)) aNil))))))))) (bCons (sSet 3 (eBin dAdd (eVar 3) (eF (fLst (aCons (eCall m_changes_of (aCons (eTup (aCons (eC (.int 1)) (aCons (eC (.int 1)) (aCons (eUn dNeg (eC (.int 1))) (aCons (eC (.int 1)) aNil))))) aNil)) (aCons (eCall m_float_of (aCons (eTup (aCons (eC (.int 1)) (aCons (eUn dNeg (eC (.int 1))) (aCons (eC (.int 1)) (aCons (eUn dNeg (eC (.int 1))) aNil))))) aNil)) (aCons (eCall m_float_of (aCons (eTup (aCons (eC (.int 1)) (aCons (eC (.int 1)) (aCons (eC (.int 1)) aNil)))) aNil)) (aCons (eCall m_float_of (aCons (eTup aNil) aNil)) (aCons (eCall m_changes_of (aCons (eTup aNil) aNil)) (aCons (eCall m_column_of (aCons (eVar 1) (aCons (eTup aNil) aNil))) aNil)))))))))) (bCons (sIf (tNot (tTru (eCall m__law_like (aCons (eVar 3) (aCons (eF (fLst (aCons (eC (.bl true)) (aCons (eC (.bl false)) (aCons (eTup (aCons (eC (.str [97])) (aCons (eC (.str [98])) (aCons (eC (.str [99])) (aCons (eC (.str [100])) (aCons (eC (.str [97])) aNil)))))) (aCons (eTup (aCons (eC (.str [97])) (aCons (eC (.str [97])) (aCons (eC (.str [100])) aNil)))) (aCons (eC (.int 1)) (aCons (eC (.int 1)) (aCons (eC (.int 2)) (aCons (eC (.int 4)) (aCons (eC (.int 1)) (aCons (eC (.int 0)) (aCons (eC (.int 0)) (aCons (eTup aNil) aNil)))))))))))))) aNil))))) (bCons (sRet (eC (.bl false))) bNil) bNil) (bCons (sSet 4 (eTup (aCons (eTup (aCons (eC (.int 1)) (aCons (eC (.int 1)) aNil))) (aCons (eTup (aCons (eC (.int 1)) (aCons (eUn dNeg (eC (.int 1))) aNil))) aNil)))) (bCons (sSet 3 (eF (fLst (aCons (eCall m_shown_picture (aCons (eTup (aCons (eVar 1) (aCons (eVar 2) aNil))) (aCons (eVar 4) aNil))) (aCons (eCall m_leans_of (aCons (eTup (aCons (eVar 1) (aCons (eVar 2) aNil))) (aCons (eVar 4) aNil))) (aCons (eCall m_twists_of (aCons (eTup (aCons (eVar 1) (aCons (eVar 2) aNil))) (aCons (eVar 4) aNil))) aNil)))))) (bCons (sIf (tNot (tTru (eCall m__law_like (aCons (eVar 3) (aCons (eF (fLst (aCons (eTup (aCons (eTup (aCons (eC (.str [97])) (aCons (eC (.str [97])) aNil))) (aCons (eTup (aCons (eC (.str [98])) (aCons (eC (.str [97])) aNil))) aNil))) (aCons (eTup (aCons (eC (.str [47, 45])) (aCons (eC (.str [47, 47])) aNil))) (aCons (eTup (aCons (eC (.int 2)) (aCons (eC (.int 0)) aNil))) aNil))))) aNil))))) (bCons (sRet (eC (.bl false))) bNil) bNil) T)))))))
def B__law_written : SS :=
  (bCons (sAsgN (gTupD 2 (gsCons (gNm 1) (gsCons (gNm 2) gsNil))) (eTup (aCons (eTup (aCons (eC (.str [115])) (aCons (eTup (aCons (eC (.str [97])) (aCons (eC (.str [98])) (aCons (eC (.str [99])) (aCons (eC (.str [100])) aNil))))) aNil))) (aCons (eTup (aCons (eC (.str [122])) (aCons (eTup (aCons (eC (.str [97])) (aCons (eC (.str [97])) (aCons (eC (.str [98])) (aCons (eC (.str [98])) aNil))))) aNil))) aNil)))) (bCons (sSet 3 (eF (fLst (aCons (eCall m_is_tablet (aCons (eVar 1) aNil)) (aCons (eCall m_is_tablet (aCons (eTup (aCons (eC (.str [120])) (aCons (eBin dIx (eVar 1) (eC (.int 1))) aNil))) aNil)) (aCons (eCall m_column_of (aCons (eVar 1) (aCons (eTup (aCons (eC (.int 1)) (aCons (eC (.int 1)) (aCons (eC (.int 1)) (aCons (eC (.int 1)) (aCons (eC (.int 1)) aNil)))))) aNil))) (aCons (eCall m_column_of (aCons (eVar 1) (aCons (eTup (aCons (eC (.int 1)) (aCons (eUn dNeg (eC (.int 1))) (aCons (eUn dNeg (eC (.int 1))) aNil)))) aNil))) (aCons (eCall m_top_of (aCons (eTup (aCons (eC (.int 1)) (aCons (eC (.int 1)) (aCons (eUn dNeg (eC (.int 1))) aNil)))) aNil)) (aCons (eCall m_twist_of (aCons (eTup (aCons (eC (.int 1)) (aCons (eC (.int 1)) (aCons (eUn dNeg (eC (.int 1))) aNil)))) aNil)) aNil))))))))) (bCons (sSet 3 (eBin dAdd (eVar 3) (eF (fLst (aCons (eCall m_changes_of (aCons (eTup (aCons (eC (.int 1)) (aCons (eC (.int 1)) (aCons (eUn dNeg (eC (.int 1))) (aCons (eC (.int 1)) aNil))))) aNil)) (aCons (eCall m_float_of (aCons (eTup (aCons (eC (.int 1)) (aCons (eUn dNeg (eC (.int 1))) (aCons (eC (.int 1)) (aCons (eUn dNeg (eC (.int 1))) aNil))))) aNil)) (aCons (eCall m_float_of (aCons (eTup (aCons (eC (.int 1)) (aCons (eC (.int 1)) (aCons (eC (.int 1)) aNil)))) aNil)) (aCons (eCall m_float_of (aCons (eTup aNil) aNil)) (aCons (eCall m_changes_of (aCons (eTup aNil) aNil)) (aCons (eCall m_column_of (aCons (eVar 1) (aCons (eTup aNil) aNil))) aNil)))))))))) (bCons (sIf (tNot (tTru (eCall m__law_like (aCons (eVar 3) (aCons (eF (fLst (aCons (eC (.bl true)) (aCons (eC (.bl false)) (aCons (eTup (aCons (eC (.str [97])) (aCons (eC (.str [98])) (aCons (eC (.str [99])) (aCons (eC (.str [100])) (aCons (eC (.str [97])) aNil)))))) (aCons (eTup (aCons (eC (.str [97])) (aCons (eC (.str [97])) (aCons (eC (.str [100])) aNil)))) (aCons (eC (.int 1)) (aCons (eC (.int 1)) (aCons (eC (.int 2)) (aCons (eC (.int 4)) (aCons (eC (.int 1)) (aCons (eC (.int 0)) (aCons (eC (.int 0)) (aCons (eTup aNil) aNil)))))))))))))) aNil))))) (bCons (sRet (eC (.bl false))) bNil) bNil) (bCons (sSet 4 (eTup (aCons (eTup (aCons (eC (.int 1)) (aCons (eC (.int 1)) aNil))) (aCons (eTup (aCons (eC (.int 1)) (aCons (eUn dNeg (eC (.int 1))) aNil))) aNil)))) (bCons (sSet 3 (eF (fLst (aCons (eCall m_shown_picture (aCons (eTup (aCons (eVar 1) (aCons (eVar 2) aNil))) (aCons (eVar 4) aNil))) (aCons (eCall m_leans_of (aCons (eTup (aCons (eVar 1) (aCons (eVar 2) aNil))) (aCons (eVar 4) aNil))) (aCons (eCall m_twists_of (aCons (eTup (aCons (eVar 1) (aCons (eVar 2) aNil))) (aCons (eVar 4) aNil))) aNil)))))) (bCons (sIf (tNot (tTru (eCall m__law_like (aCons (eVar 3) (aCons (eF (fLst (aCons (eTup (aCons (eTup (aCons (eC (.str [97])) (aCons (eC (.str [97])) aNil))) (aCons (eTup (aCons (eC (.str [98])) (aCons (eC (.str [97])) aNil))) aNil))) (aCons (eTup (aCons (eC (.str [47, 45])) (aCons (eC (.str [47, 47])) aNil))) (aCons (eTup (aCons (eC (.int 2)) (aCons (eC (.int 0)) aNil))) aNil))))) aNil))))) (bCons (sRet (eC (.bl false))) bNil) bNil) T__law_written_7)))))))
def m__law_written : FS := ⟨ps__law_written.length, [0], runB N__law_written.length ps__law_written.length [0] B__law_written⟩
@[simp] theorem np__law_written : m__law_written.np = 1 := nr rfl
theorem me__law_written (ds : List D) : m__law_written.m ds = runB 10 1 [0] B__law_written ds := nr rfl
theorem c__law_written (g : G K mg) : CalF P w K mg base (S0 K) 10 "_law_written" m__law_written := by
  obtain ⟨fd, F⟩ := g.f__law_written
  refine cal_of (fn_ev (ow := [0]) (bor := [0]) (B := B__law_written) (fun_of F) sc__law_written (all_in rfl) (hbl_of rfl) (ho_of rfl) fun cdv A outer s H E hr tk => ?_) g.g__law_written F.kp (F.bindsN fun _ _ _ _ _ _ us hl => match us, hl with | [_], _ => rfl)
  exact (eb_cons (es_asg (ev_tup (ea_cons (ev_tup (ea_cons (ev_str [115]) (ea_cons (ev_tup (ea_cons (ev_str [97]) (ea_cons (ev_str [98]) (ea_cons (ev_str [99]) (ea_cons (ev_str [100]) ea_nil))))) ea_nil))) (ea_cons (ev_tup (ea_cons (ev_str [122]) (ea_cons (ev_tup (ea_cons (ev_str [97]) (ea_cons (ev_str [97]) (ea_cons (ev_str [98]) (ea_cons (ev_str [98]) ea_nil))))) ea_nil))) ea_nil))) (eg_tup rfl (egs_cons (eg_nm (i := 1) (nmem_of rfl) (nmem_of rfl) sc__law_written.nd rfl (Or.inl rfl)) (egs_cons (eg_nm (i := 2) (nmem_of rfl) (nmem_of rfl) sc__law_written.nd rfl (Or.inl rfl)) egs_nil))))
  (eb_cons (es_set (i := 3) (nmem_of rfl) (nmem_of rfl) sc__law_written.nd rfl (Or.inl rfl) (ev_f (ef_lst (ea_cons (ev_call tk (c_is_tablet g) same0 rfl hr (by decide) rfl (ea_cons (ev_var (i := 1) (nmem_of rfl) rfl (Or.inl rfl)) ea_nil)) (ea_cons (ev_call tk (c_is_tablet g) same0 rfl hr (by decide) rfl (ea_cons (ev_tup (ea_cons (ev_str [120]) (ea_cons (ev_ix (fun _ _ => rfl) ix_all (ev_var (i := 1) (nmem_of rfl) rfl (Or.inl rfl)) ev_int) ea_nil))) ea_nil)) (ea_cons (ev_call tk (c_column_of g) same0 rfl hr (by decide) rfl (ea_cons (ev_var (i := 1) (nmem_of rfl) rfl (Or.inl rfl)) (ea_cons (ev_tup (ea_cons ev_int (ea_cons ev_int (ea_cons ev_int (ea_cons ev_int (ea_cons ev_int ea_nil)))))) ea_nil))) (ea_cons (ev_call tk (c_column_of g) same0 rfl hr (by decide) rfl (ea_cons (ev_var (i := 1) (nmem_of rfl) rfl (Or.inl rfl)) (ea_cons (ev_tup (ea_cons ev_int (ea_cons (ev_un ud_neg ev_int) (ea_cons (ev_un ud_neg ev_int) ea_nil)))) ea_nil))) (ea_cons (ev_call tk (c_top_of g) same0 rfl hr (by decide) rfl (ea_cons (ev_tup (ea_cons ev_int (ea_cons ev_int (ea_cons (ev_un ud_neg ev_int) ea_nil)))) ea_nil)) (ea_cons (ev_call tk (c_twist_of g) same0 rfl hr (by decide) rfl (ea_cons (ev_tup (ea_cons ev_int (ea_cons ev_int (ea_cons (ev_un ud_neg ev_int) ea_nil)))) ea_nil)) ea_nil)))))))))
  (eb_cons (es_set (i := 3) (nmem_of rfl) (nmem_of rfl) sc__law_written.nd rfl (Or.inl rfl) (ev_bin od_add (ev_var (i := 3) (nmem_of rfl) rfl (Or.inl rfl)) (ev_f (ef_lst (ea_cons (ev_call tk (c_changes_of g) same0 rfl hr (by decide) rfl (ea_cons (ev_tup (ea_cons ev_int (ea_cons ev_int (ea_cons (ev_un ud_neg ev_int) (ea_cons ev_int ea_nil))))) ea_nil)) (ea_cons (ev_call tk (c_float_of g) same0 rfl hr (by decide) rfl (ea_cons (ev_tup (ea_cons ev_int (ea_cons (ev_un ud_neg ev_int) (ea_cons ev_int (ea_cons (ev_un ud_neg ev_int) ea_nil))))) ea_nil)) (ea_cons (ev_call tk (c_float_of g) same0 rfl hr (by decide) rfl (ea_cons (ev_tup (ea_cons ev_int (ea_cons ev_int (ea_cons ev_int ea_nil)))) ea_nil)) (ea_cons (ev_call tk (c_float_of g) same0 rfl hr (by decide) rfl (ea_cons (ev_tup ea_nil) ea_nil)) (ea_cons (ev_call tk (c_changes_of g) same0 rfl hr (by decide) rfl (ea_cons (ev_tup ea_nil) ea_nil)) (ea_cons (ev_call tk (c_column_of g) same0 rfl hr (by decide) rfl (ea_cons (ev_var (i := 1) (nmem_of rfl) rfl (Or.inl rfl)) (ea_cons (ev_tup ea_nil) ea_nil))) ea_nil))))))))))
  (eb_cons (es_if (et_not (et_truth (ev_call tk (c__law_like g) same0 rfl hr (by decide) rfl (ea_cons (ev_var (i := 3) (nmem_of rfl) rfl (Or.inl rfl)) (ea_cons (ev_f (ef_lst (ea_cons ev_bl (ea_cons ev_bl (ea_cons (ev_tup (ea_cons (ev_str [97]) (ea_cons (ev_str [98]) (ea_cons (ev_str [99]) (ea_cons (ev_str [100]) (ea_cons (ev_str [97]) ea_nil)))))) (ea_cons (ev_tup (ea_cons (ev_str [97]) (ea_cons (ev_str [97]) (ea_cons (ev_str [100]) ea_nil)))) (ea_cons ev_int (ea_cons ev_int (ea_cons ev_int (ea_cons ev_int (ea_cons ev_int (ea_cons ev_int (ea_cons ev_int (ea_cons (ev_tup ea_nil) ea_nil)))))))))))))) ea_nil))) (fun _ => rfl))) (eb_cons (es_ret ev_bl)
  eb_nil) eb_nil)
  (eb_cons (es_set (i := 4) (nmem_of rfl) (nmem_of rfl) sc__law_written.nd rfl (Or.inl rfl) (ev_tup (ea_cons (ev_tup (ea_cons ev_int (ea_cons ev_int ea_nil))) (ea_cons (ev_tup (ea_cons ev_int (ea_cons (ev_un ud_neg ev_int) ea_nil))) ea_nil))))
  (eb_cons (es_set (i := 3) (nmem_of rfl) (nmem_of rfl) sc__law_written.nd rfl (Or.inl rfl) (ev_f (ef_lst (ea_cons (ev_call tk (c_shown_picture g) same0 rfl hr (by decide) rfl (ea_cons (ev_tup (ea_cons (ev_var (i := 1) (nmem_of rfl) rfl (Or.inl rfl)) (ea_cons (ev_var (i := 2) (nmem_of rfl) rfl (Or.inl rfl)) ea_nil))) (ea_cons (ev_var (i := 4) (nmem_of rfl) rfl (Or.inl rfl)) ea_nil))) (ea_cons (ev_call tk (c_leans_of g) same0 rfl hr (by decide) rfl (ea_cons (ev_tup (ea_cons (ev_var (i := 1) (nmem_of rfl) rfl (Or.inl rfl)) (ea_cons (ev_var (i := 2) (nmem_of rfl) rfl (Or.inl rfl)) ea_nil))) (ea_cons (ev_var (i := 4) (nmem_of rfl) rfl (Or.inl rfl)) ea_nil))) (ea_cons (ev_call tk (c_twists_of g) same0 rfl hr (by decide) rfl (ea_cons (ev_tup (ea_cons (ev_var (i := 1) (nmem_of rfl) rfl (Or.inl rfl)) (ea_cons (ev_var (i := 2) (nmem_of rfl) rfl (Or.inl rfl)) ea_nil))) (ea_cons (ev_var (i := 4) (nmem_of rfl) rfl (Or.inl rfl)) ea_nil))) ea_nil))))))
  (eb_cons (es_if (et_not (et_truth (ev_call tk (c__law_like g) same0 rfl hr (by decide) rfl (ea_cons (ev_var (i := 3) (nmem_of rfl) rfl (Or.inl rfl)) (ea_cons (ev_f (ef_lst (ea_cons (ev_tup (ea_cons (ev_tup (ea_cons (ev_str [97]) (ea_cons (ev_str [97]) ea_nil))) (ea_cons (ev_tup (ea_cons (ev_str [98]) (ea_cons (ev_str [97]) ea_nil))) ea_nil))) (ea_cons (ev_tup (ea_cons (ev_str [47, 45]) (ea_cons (ev_str [47, 47]) ea_nil))) (ea_cons (ev_tup (ea_cons ev_int (ea_cons ev_int ea_nil))) ea_nil))))) ea_nil))) (fun _ => rfl))) (eb_cons (es_ret ev_bl)
  eb_nil) eb_nil)
  (eb_cons (es_set (i := 5) (nmem_of rfl) (nmem_of rfl) sc__law_written.nd rfl (Or.inl rfl) (ev_callC tk (c__law_roll g) same0 rfl hr (by decide) rfl (ea_cons (ev_plc (i := 0) (mem_of rfl) rfl (Or.inl rfl)) (ea_cons ev_int ea_nil))))
  (eb_cons (es_set (i := 6) (nmem_of rfl) (nmem_of rfl) sc__law_written.nd rfl (Or.inl rfl) (ev_bin od_add (ev_bin od_mul (ev_tup (ea_cons ev_int ea_nil)) (ev_var (i := 5) (nmem_of rfl) rfl (Or.inl rfl))) (ev_bin od_mul (ev_tup (ea_cons (ev_un ud_neg ev_int) ea_nil)) (ev_var (i := 5) (nmem_of rfl) rfl (Or.inl rfl)))))
  (eb_cons (es_set (i := 7) (nmem_of rfl) (nmem_of rfl) sc__law_written.nd rfl (Or.inl rfl) (ev_call tk (c_column_of g) same0 rfl hr (by decide) rfl (ea_cons (ev_var (i := 1) (nmem_of rfl) rfl (Or.inl rfl)) (ea_cons (ev_var (i := 6) (nmem_of rfl) rfl (Or.inl rfl)) ea_nil))))
  (eb_cons (es_set (i := 3) (nmem_of rfl) (nmem_of rfl) sc__law_written.nd rfl (Or.inl rfl) (ev_f (ef_lst (ea_cons (ev_slice (ev_var (i := 7) (nmem_of rfl) rfl (Or.inl rfl)) (ep_some (ev_var (i := 5) (nmem_of rfl) rfl (Or.inl rfl))) ep_none) (ea_cons (ev_call tk (c_top_of g) same0 rfl hr (by decide) rfl (ea_cons (ev_var (i := 6) (nmem_of rfl) rfl (Or.inl rfl)) ea_nil)) (ea_cons (ev_call tk (c_twist_of g) same0 rfl hr (by decide) rfl (ea_cons (ev_var (i := 6) (nmem_of rfl) rfl (Or.inl rfl)) ea_nil)) (ea_cons (ev_call tk (c_changes_of g) same0 rfl hr (by decide) rfl (ea_cons (ev_var (i := 6) (nmem_of rfl) rfl (Or.inl rfl)) ea_nil)) (ea_cons (ev_call tk (c_float_of g) same0 rfl hr (by decide) rfl (ea_cons (ev_var (i := 6) (nmem_of rfl) rfl (Or.inl rfl)) ea_nil)) (ea_cons (ev_call tk (c_top_of g) same0 rfl hr (by decide) rfl (ea_cons (ev_bin od_mul (ev_tup (ea_cons (ev_un ud_neg ev_int) ea_nil)) (ev_bin od_mul ev_int (ev_var (i := 5) (nmem_of rfl) rfl (Or.inl rfl)))) ea_nil)) (ea_cons (ev_call tk (c_twist_of g) same0 rfl hr (by decide) rfl (ea_cons (ev_bin od_mul (ev_tup (ea_cons ev_int ea_nil)) ev_int) ea_nil)) ea_nil))))))))))
  (eb_cons (es_set (i := 8) (nmem_of rfl) (nmem_of rfl) sc__law_written.nd rfl (Or.inl rfl) (ev_f (ef_lst (ea_cons (ev_rev (ev_slice (ev_var (i := 7) (nmem_of rfl) rfl (Or.inl rfl)) ep_none (ep_some (ev_var (i := 5) (nmem_of rfl) rfl (Or.inl rfl))))) (ea_cons ev_int (ea_cons ev_int (ea_cons (ev_if (et_cmp (od_GT (hu64 hr)) (ev_var (i := 5) (nmem_of rfl) rfl (Or.inl rfl)) ev_int rfl) ev_int ev_int) (ea_cons (ev_if (et_cmp (od_GT (hu64 hr)) (ev_var (i := 5) (nmem_of rfl) rfl (Or.inl rfl)) ev_int rfl) ev_int ev_int) (ea_cons (ev_bin od_sub (ev_bin od_sub ev_int (ev_bin od_mul ev_int (ev_var (i := 5) (nmem_of rfl) rfl (Or.inl rfl)))) (ev_bin od_mul (ev_bin od_div (ev_bin od_sub ev_int (ev_bin od_mul ev_int (ev_var (i := 5) (nmem_of rfl) rfl (Or.inl rfl)))) ev_int) ev_int)) (ea_cons ev_int ea_nil))))))))))
  (eb_cons (es_par2 (okT_of rfl) rfl sc__law_written.nd rfl rfl (by decide) rfl rfl (eq_val (ev_bin od_add (ev_var (i := 3) (nmem_of rfl) rfl (Or.inl rfl)) (ev_f (ef_lst (ea_cons (ev_call tk (c_float_of g) same0 rfl hr (by decide) rfl (ea_cons (ev_bin od_mul (ev_tup (ea_cons ev_int (ea_cons (ev_un ud_neg ev_int) ea_nil))) ev_int) ea_nil)) (ea_cons (ev_call tk (c_float_of g) same0 rfl hr (by decide) rfl (ea_cons (ev_bin od_add (ev_bin od_mul (ev_tup (ea_cons ev_int ea_nil)) ev_int) (ev_bin od_mul (ev_tup (ea_cons ev_int (ea_cons (ev_un ud_neg ev_int) ea_nil))) ev_int)) ea_nil)) ea_nil))))) (eq_val (ev_bin od_add (ev_var (i := 8) (nmem_of rfl) rfl (Or.inl rfl)) (ev_f (ef_lst (ea_cons ev_int (ea_cons ev_int ea_nil))))) eq_nil)) (by rfl))
  (eb_cons (es_set (i := 9) (nmem_of rfl) (nmem_of rfl) sc__law_written.nd rfl (Or.inl rfl) (ev_bin od_mul (ev_tup (ea_cons (ev_var (i := 1) (nmem_of rfl) rfl (Or.inl rfl)) (ea_cons (ev_var (i := 2) (nmem_of rfl) rfl (Or.inl rfl)) ea_nil))) ev_int))
  (eb_cons (es_ret (ev_and (ev_call tk (c__law_like g) same0 rfl hr (by decide) rfl (ea_cons (ev_var (i := 3) (nmem_of rfl) rfl (Or.inl rfl)) (ea_cons (ev_var (i := 8) (nmem_of rfl) rfl (Or.inl rfl)) ea_nil))) (ev_and (ev_cmp (od_eq (hu64 hr)) (ev_ix (fun _ _ => rfl) ix_all (ev_call tk (c_shown_picture g) same0 rfl hr (by decide) rfl (ea_cons (ev_var (i := 9) (nmem_of rfl) rfl (Or.inl rfl)) (ea_cons (ev_bin od_mul (ev_tup (ea_cons (ev_bin od_mul (ev_tup (ea_cons ev_int ea_nil)) ev_int) ea_nil)) ev_int) ea_nil))) ev_int) (ev_bin od_mul (ev_tup (ea_cons (ev_str [100]) (ea_cons (ev_str [98]) ea_nil))) ev_int) rfl) (ev_one (ev_cmp (od_eq (hu64 hr)) (ev_call tk (c_leans_of g) same0 rfl hr (by decide) rfl (ea_cons (ev_var (i := 9) (nmem_of rfl) rfl (Or.inl rfl)) (ea_cons (ev_tup (ea_cons (ev_bin od_mul (ev_tup (ea_cons (ev_un ud_neg ev_int) ea_nil)) ev_int) ea_nil)) ea_nil))) (ev_tup (ea_cons (ev_bin od_mul (ev_str [45, 47]) ev_int) ea_nil)) rfl)))))
  eb_nil)))))))))))))))
/-! are_rows -/
abbrev N_are_rows : List Str := ["pack", "value"]
abbrev ps_are_rows : List Str := ["pack", "value"]
theorem sc_are_rows : FnScope N_are_rows ps_are_rows (defScope (top 25)) := ⟨rfl, rfl, rfl, by decide +kernel, rfl, by decide +kernel, by decide +kernel⟩
def B_are_rows : SS :=
  (bCons (sExpr (eCall m_need (aCons (eCall m_fits_pack (aCons (eVar 0) aNil)) aNil))) (bCons (sRet (eCall m_fits_rows (aCons (eVar 0) (aCons (eVar 1) aNil)))) bNil))
def m_are_rows : FS := ⟨ps_are_rows.length, [], runB N_are_rows.length ps_are_rows.length [] B_are_rows⟩
@[simp] theorem np_are_rows : m_are_rows.np = 2 := nr rfl
theorem me_are_rows (ds : List D) : m_are_rows.m ds = runB 2 2 [] B_are_rows ds := nr rfl
theorem c_are_rows (g : G K mg) : CalF P w K mg base (S0 K) 5 "are_rows" m_are_rows := by
  obtain ⟨fd, F⟩ := g.f_are_rows
  refine cal_of (fn_ev (ow := []) (bor := []) (B := B_are_rows) (fun_of F) sc_are_rows (all_in rfl) (hbl_of rfl) (ho_of rfl) fun cdv A outer s H E hr tk => ?_) g.g_are_rows F.kp (F.bindsN fun _ _ _ _ _ _ us hl => match us, hl with | [_, _], _ => rfl)
  exact (eb_cons (es_expr (ev_call tk (c_need g) same0 rfl hr (by decide) rfl (ea_cons (ev_call tk (c_fits_pack g) same0 rfl hr (by decide) rfl (ea_cons (ev_var (i := 0) (nmem_of rfl) rfl (Or.inl rfl)) ea_nil)) ea_nil)))
  (eb_cons (es_ret (ev_call tk (c_fits_rows g) same0 rfl hr (by decide) rfl (ea_cons (ev_var (i := 0) (nmem_of rfl) rfl (Or.inl rfl)) (ea_cons (ev_var (i := 1) (nmem_of rfl) rfl (Or.inl rfl)) ea_nil))))
  eb_nil))
/-! _law_written_right -/
abbrev N__law_written_right : List Str := ["one", "two", "told"]
abbrev ps__law_written_right : List Str := []
theorem sc__law_written_right : FnScope N__law_written_right ps__law_written_right (defScope (top 54)) := ⟨rfl, rfl, rfl, by decide +kernel, rfl, by decide +kernel, by decide +kernel⟩
def B__law_written_right : SS :=
  (bCons (sAsgN (gTupD 2 (gsCons (gNm 0) (gsCons (gNm 1) gsNil))) (eTup (aCons (eTup (aCons (eC (.str [115])) (aCons (eTup (aCons (eC (.str [97])) (aCons (eC (.str [98])) (aCons (eC (.str [99])) (aCons (eC (.str [100])) aNil))))) aNil))) (aCons (eTup (aCons (eC (.str [122])) (aCons (eTup (aCons (eC (.str [97])) (aCons (eC (.str [97])) (aCons (eC (.str [98])) (aCons (eC (.str [98])) aNil))))) aNil))) aNil)))) (bCons (sSet 2 (eF (fLst (aCons (eCall m_column_of (aCons (eVar 0) (aCons (eTup (aCons (eC (.int 1)) (aCons (eC (.int 1)) (aCons (eC (.int 1)) (aCons (eC (.int 1)) (aCons (eC (.int 1)) aNil)))))) aNil))) (aCons (eCall m_column_of (aCons (eVar 0) (aCons (eTup (aCons (eC (.int 1)) (aCons (eUn dNeg (eC (.int 1))) (aCons (eUn dNeg (eC (.int 1))) aNil)))) aNil))) (aCons (eCall m_leans_of (aCons (eTup (aCons (eVar 0) (aCons (eVar 1) aNil))) (aCons (eTup (aCons (eTup (aCons (eC (.int 1)) (aCons (eC (.int 1)) aNil))) (aCons (eTup (aCons (eC (.int 1)) (aCons (eUn dNeg (eC (.int 1))) aNil))) aNil))) aNil))) (aCons (eCall m_changes_of (aCons (eTup (aCons (eC (.int 1)) (aCons (eC (.int 1)) (aCons (eUn dNeg (eC (.int 1))) (aCons (eC (.int 1)) aNil))))) aNil)) aNil))))))) (bCons (sSet 2 (eBin dAdd (eVar 2) (eF (fLst (aCons (eCall m_are_rows (aCons (eTup (aCons (eVar 0) aNil)) (aCons (eTup (aCons (eTup (aCons (eC (.int 0)) aNil)) aNil)) aNil))) (aCons (eCall m_are_rows (aCons (eTup (aCons (eVar 0) aNil)) (aCons (eTup (aCons (eTup (aCons (eC (.int 1)) aNil)) aNil)) aNil))) (aCons (eCall m_float_of (aCons (eTup (aCons (eC (.int 1)) (aCons (eUn dNeg (eC (.int 1))) (aCons (eC (.int 1)) (aCons (eUn dNeg (eC (.int 1))) aNil))))) aNil)) (aCons (eCall m_is_tablet (aCons (eTup (aCons (eC (.str [120])) (aCons (eBin dIx (eVar 0) (eC (.int 1))) aNil))) aNil)) aNil)))))))) (bCons (sRet (eCall m__law_like (aCons (eVar 2) (aCons (eF (fLst (aCons (eTup (aCons (eC (.str [97])) (aCons (eC (.str [98])) (aCons (eC (.str [99])) (aCons (eC (.str [100])) (aCons (eC (.str [97])) aNil)))))) (aCons (eTup (aCons (eC (.str [97])) (aCons (eC (.str [97])) (aCons (eC (.str [100])) aNil)))) (aCons (eTup (aCons (eC (.str [47, 45])) (aCons (eC (.str [47, 47])) aNil))) (aCons (eC (.int 2)) (aCons (eC (.bl false)) (aCons (eC (.bl true)) (aCons (eC (.int 4)) (aCons (eC (.bl false)) aNil)))))))))) aNil)))) bNil))))
def m__law_written_right : FS := ⟨ps__law_written_right.length, [], runB N__law_written_right.length ps__law_written_right.length [] B__law_written_right⟩
@[simp] theorem np__law_written_right : m__law_written_right.np = 0 := nr rfl
theorem me__law_written_right (ds : List D) : m__law_written_right.m ds = runB 3 0 [] B__law_written_right ds := nr rfl
theorem c__law_written_right (g : G K mg) : CalF P w K mg base (S0 K) 10 "_law_written_right" m__law_written_right := by
  obtain ⟨fd, F⟩ := g.f__law_written_right
  refine cal_of (fn_ev (ow := []) (bor := []) (B := B__law_written_right) (fun_of F) sc__law_written_right (all_in rfl) (hbl_of rfl) (ho_of rfl) fun cdv A outer s H E hr tk => ?_) g.g__law_written_right F.kp (F.bindsN fun _ _ _ _ _ _ us hl => match us, hl with | [], _ => rfl)
  exact (eb_cons (es_asg (ev_tup (ea_cons (ev_tup (ea_cons (ev_str [115]) (ea_cons (ev_tup (ea_cons (ev_str [97]) (ea_cons (ev_str [98]) (ea_cons (ev_str [99]) (ea_cons (ev_str [100]) ea_nil))))) ea_nil))) (ea_cons (ev_tup (ea_cons (ev_str [122]) (ea_cons (ev_tup (ea_cons (ev_str [97]) (ea_cons (ev_str [97]) (ea_cons (ev_str [98]) (ea_cons (ev_str [98]) ea_nil))))) ea_nil))) ea_nil))) (eg_tup rfl (egs_cons (eg_nm (i := 0) (nmem_of rfl) (nmem_of rfl) sc__law_written_right.nd rfl (Or.inl rfl)) (egs_cons (eg_nm (i := 1) (nmem_of rfl) (nmem_of rfl) sc__law_written_right.nd rfl (Or.inl rfl)) egs_nil))))
  (eb_cons (es_set (i := 2) (nmem_of rfl) (nmem_of rfl) sc__law_written_right.nd rfl (Or.inl rfl) (ev_f (ef_lst (ea_cons (ev_call tk (c_column_of g) same0 rfl hr (by decide) rfl (ea_cons (ev_var (i := 0) (nmem_of rfl) rfl (Or.inl rfl)) (ea_cons (ev_tup (ea_cons ev_int (ea_cons ev_int (ea_cons ev_int (ea_cons ev_int (ea_cons ev_int ea_nil)))))) ea_nil))) (ea_cons (ev_call tk (c_column_of g) same0 rfl hr (by decide) rfl (ea_cons (ev_var (i := 0) (nmem_of rfl) rfl (Or.inl rfl)) (ea_cons (ev_tup (ea_cons ev_int (ea_cons (ev_un ud_neg ev_int) (ea_cons (ev_un ud_neg ev_int) ea_nil)))) ea_nil))) (ea_cons (ev_call tk (c_leans_of g) same0 rfl hr (by decide) rfl (ea_cons (ev_tup (ea_cons (ev_var (i := 0) (nmem_of rfl) rfl (Or.inl rfl)) (ea_cons (ev_var (i := 1) (nmem_of rfl) rfl (Or.inl rfl)) ea_nil))) (ea_cons (ev_tup (ea_cons (ev_tup (ea_cons ev_int (ea_cons ev_int ea_nil))) (ea_cons (ev_tup (ea_cons ev_int (ea_cons (ev_un ud_neg ev_int) ea_nil))) ea_nil))) ea_nil))) (ea_cons (ev_call tk (c_changes_of g) same0 rfl hr (by decide) rfl (ea_cons (ev_tup (ea_cons ev_int (ea_cons ev_int (ea_cons (ev_un ud_neg ev_int) (ea_cons ev_int ea_nil))))) ea_nil)) ea_nil)))))))
  (eb_cons (es_set (i := 2) (nmem_of rfl) (nmem_of rfl) sc__law_written_right.nd rfl (Or.inl rfl) (ev_bin od_add (ev_var (i := 2) (nmem_of rfl) rfl (Or.inl rfl)) (ev_f (ef_lst (ea_cons (ev_call tk (c_are_rows g) same0 rfl hr (by decide) rfl (ea_cons (ev_tup (ea_cons (ev_var (i := 0) (nmem_of rfl) rfl (Or.inl rfl)) ea_nil)) (ea_cons (ev_tup (ea_cons (ev_tup (ea_cons ev_int ea_nil)) ea_nil)) ea_nil))) (ea_cons (ev_call tk (c_are_rows g) same0 rfl hr (by decide) rfl (ea_cons (ev_tup (ea_cons (ev_var (i := 0) (nmem_of rfl) rfl (Or.inl rfl)) ea_nil)) (ea_cons (ev_tup (ea_cons (ev_tup (ea_cons ev_int ea_nil)) ea_nil)) ea_nil))) (ea_cons (ev_call tk (c_float_of g) same0 rfl hr (by decide) rfl (ea_cons (ev_tup (ea_cons ev_int (ea_cons (ev_un ud_neg ev_int) (ea_cons ev_int (ea_cons (ev_un ud_neg ev_int) ea_nil))))) ea_nil)) (ea_cons (ev_call tk (c_is_tablet g) same0 rfl hr (by decide) rfl (ea_cons (ev_tup (ea_cons (ev_str [120]) (ea_cons (ev_ix (fun _ _ => rfl) ix_all (ev_var (i := 0) (nmem_of rfl) rfl (Or.inl rfl)) ev_int) ea_nil))) ea_nil)) ea_nil))))))))
  (eb_cons (es_ret (ev_call tk (c__law_like g) same0 rfl hr (by decide) rfl (ea_cons (ev_var (i := 2) (nmem_of rfl) rfl (Or.inl rfl)) (ea_cons (ev_f (ef_lst (ea_cons (ev_tup (ea_cons (ev_str [97]) (ea_cons (ev_str [98]) (ea_cons (ev_str [99]) (ea_cons (ev_str [100]) (ea_cons (ev_str [97]) ea_nil)))))) (ea_cons (ev_tup (ea_cons (ev_str [97]) (ea_cons (ev_str [97]) (ea_cons (ev_str [100]) ea_nil)))) (ea_cons (ev_tup (ea_cons (ev_str [47, 45]) (ea_cons (ev_str [47, 47]) ea_nil))) (ea_cons ev_int (ea_cons ev_bl (ea_cons ev_bl (ea_cons ev_int (ea_cons ev_bl ea_nil)))))))))) ea_nil))))
  eb_nil))))
/-! _law_some -/
abbrev N__law_some : List Str := ["cup", "things"]
abbrev ps__law_some : List Str := ["cup", "things"]
theorem sc__law_some : FnScope N__law_some ps__law_some (defScope (top 38)) := ⟨rfl, rfl, rfl, by decide +kernel, rfl, by decide +kernel, by decide +kernel⟩
def B__law_some : SS :=
  (bCons (sRet (eBin dIx (eVar 1) (eCallC m__law_roll (aCons (ePlc 0) (aCons (eBlt bLen (aCons (eVar 1) aNil)) aNil))))) bNil)
def m__law_some : FS := ⟨ps__law_some.length, [0], runB N__law_some.length ps__law_some.length [0] B__law_some⟩
@[simp] theorem np__law_some : m__law_some.np = 2 := nr rfl
theorem me__law_some (ds : List D) : m__law_some.m ds = runB 2 2 [0] B__law_some ds := nr rfl
theorem c__law_some (g : G K mg) : CalF P w K mg base (S0 K) 2 "_law_some" m__law_some := by
  obtain ⟨fd, F⟩ := g.f__law_some
  refine cal_of (fn_ev (ow := [0]) (bor := [0]) (B := B__law_some) (fun_of F) sc__law_some (all_in rfl) (hbl_of rfl) (ho_of rfl) fun cdv A outer s H E hr tk => ?_) g.g__law_some F.kp (F.bindsN fun _ _ _ _ _ _ us hl => match us, hl with | [_, _], _ => rfl)
  exact (eb_cons (es_ret (ev_ix (fun _ _ => rfl) ix_all (ev_var (i := 1) (nmem_of rfl) rfl (Or.inl rfl)) (ev_callC tk (c__law_roll g) same0 rfl hr (by decide) rfl (ea_cons (ev_plc (i := 0) (mem_of rfl) rfl (Or.inl rfl)) (ea_cons (ev_blt cd_len rfl g.b_len (by decide +kernel) (ea_cons (ev_var (i := 1) (nmem_of rfl) rfl (Or.inl rfl)) ea_nil)) ea_nil)))))
  eb_nil)
/-! _law_name -/
abbrev N__law_name : List Str := ["cup", "taken", "letters", "digits", "turn", "name", "more", "number"]
abbrev ps__law_name : List Str := ["cup", "taken"]
theorem sc__law_name : FnScope N__law_name ps__law_name (defScope (top 41)) := ⟨rfl, rfl, rfl, by decide +kernel, rfl, by decide +kernel, by decide +kernel⟩
def B__law_name : SS :=
  (bCons (sAsgN (gTupD 2 (gsCons (gNm 2) (gsCons (gNm 3) gsNil))) (eTup (aCons (eC (.str [97, 98, 99, 100, 101, 102, 103, 104, 105, 106, 107, 108, 109, 110, 111, 112, 113, 114, 115, 116, 117, 118, 119, 120, 121, 122])) (aCons (eC (.str [48, 49, 50, 51, 52, 53, 54, 55, 56, 57])) aNil)))) (bCons (sFor (iRng rng1 (aCons (eC (.int 3)) aNil)) (gNm 4) (bCons (sSet 5 (eCallC m__law_some (aCons (ePlc 0) (aCons (eVar 2) aNil)))) (bCons (sFor (iRng rng1 (aCons (eCallC m__law_some (aCons (ePlc 0) (aCons (eF (fLst (aCons (eC (.int 0)) (aCons (eC (.int 0)) (aCons (eC (.int 0)) (aCons (eC (.int 1)) (aCons (eC (.int 2)) (aCons (eC (.int 11)) aNil)))))))) aNil))) aNil)) (gNm 6) (bCons (sSet 5 (eBin dAdd (eVar 5) (eCallC m__law_some (aCons (ePlc 0) (aCons (eBin dAdd (eVar 2) (eVar 3)) aNil))))) bNil)) (bCons (sIf (tB (eBin (dIn not) (eVar 5) (eVar 1))) (bCons (sRet (eVar 5)) bNil) bNil) bNil)))) (bCons (sRet (eBin dIx (eF (fLc [5] (iSeq (eF (fLc [7] (iRng rng1 (aCons (eC (.int 70)) aNil)) (gNm 7) cYes (eBin dAdd (eC (.str [110])) (eBlt bStr (aCons (eVar 7) aNil)))))) (gNm 5) (tB (eBin (dIn not) (eVar 5) (eVar 1))) (eVar 5))) (eC (.int 0)))) bNil)))
def m__law_name : FS := ⟨ps__law_name.length, [0], runB N__law_name.length ps__law_name.length [0] B__law_name⟩
@[simp] theorem np__law_name : m__law_name.np = 2 := nr rfl
theorem me__law_name (ds : List D) : m__law_name.m ds = runB 8 2 [0] B__law_name ds := nr rfl
theorem c__law_name (g : G K mg) : CalF P w K mg base (S0 K) 3 "_law_name" m__law_name := by
  obtain ⟨fd, F⟩ := g.f__law_name
  refine cal_of (fn_ev (ow := [0]) (bor := [0]) (B := B__law_name) (fun_of F) sc__law_name (all_in rfl) (hbl_of rfl) (ho_of rfl) fun cdv A outer s H E hr tk => ?_) g.g__law_name F.kp (F.bindsN fun _ _ _ _ _ _ us hl => match us, hl with | [_, _], _ => rfl)
  exact (eb_cons (es_asg (ev_tup (ea_cons (ev_str [97, 98, 99, 100, 101, 102, 103, 104, 105, 106, 107, 108, 109, 110, 111, 112, 113, 114, 115, 116, 117, 118, 119, 120, 121, 122]) (ea_cons (ev_str [48, 49, 50, 51, 52, 53, 54, 55, 56, 57]) ea_nil))) (eg_tup rfl (egs_cons (eg_nm (i := 2) (nmem_of rfl) (nmem_of rfl) sc__law_name.nd rfl (Or.inl rfl)) (egs_cons (eg_nm (i := 3) (nmem_of rfl) (nmem_of rfl) sc__law_name.nd rfl (Or.inl rfl)) egs_nil))))
  (eb_cons (es_for (passes_of rfl) rfl (ei_range1 rfl g.b_range (ea_cons ev_int ea_nil)) (eg_nm (i := 4) (nmem_of rfl) (nmem_of rfl) sc__law_name.nd rfl (Or.inl rfl)) (eb_cons (es_set (i := 5) (nmem_of rfl) (nmem_of rfl) sc__law_name.nd rfl (Or.inl rfl) (ev_callC tk (c__law_some g) same0 rfl hr (by decide) rfl (ea_cons (ev_plc (i := 0) (mem_of rfl) rfl (Or.inl rfl)) (ea_cons (ev_var (i := 2) (nmem_of rfl) rfl (Or.inl rfl)) ea_nil))))
  (eb_cons (es_for (passes_of rfl) rfl (ei_range1 rfl g.b_range (ea_cons (ev_callC tk (c__law_some g) same0 rfl hr (by decide) rfl (ea_cons (ev_plc (i := 0) (mem_of rfl) rfl (Or.inl rfl)) (ea_cons (ev_f (ef_lst (ea_cons ev_int (ea_cons ev_int (ea_cons ev_int (ea_cons ev_int (ea_cons ev_int (ea_cons ev_int ea_nil)))))))) ea_nil))) ea_nil)) (eg_nm (i := 6) (nmem_of rfl) (nmem_of rfl) sc__law_name.nd rfl (Or.inl rfl)) (eb_cons (es_set (i := 5) (nmem_of rfl) (nmem_of rfl) sc__law_name.nd rfl (Or.inl rfl) (ev_bin od_add (ev_var (i := 5) (nmem_of rfl) rfl (Or.inl rfl)) (ev_callC tk (c__law_some g) same0 rfl hr (by decide) rfl (ea_cons (ev_plc (i := 0) (mem_of rfl) rfl (Or.inl rfl)) (ea_cons (ev_bin od_add (ev_var (i := 2) (nmem_of rfl) rfl (Or.inl rfl)) (ev_var (i := 3) (nmem_of rfl) rfl (Or.inl rfl))) ea_nil)))))
  eb_nil))
  (eb_cons (es_if (et_cmp (od_notIn (hu65 hr)) (ev_var (i := 5) (nmem_of rfl) rfl (Or.inl rfl)) (ev_var (i := 1) (nmem_of rfl) rfl (Or.inr (Or.inl rfl))) rfl) (eb_cons (es_ret (ev_var (i := 5) (nmem_of rfl) rfl (Or.inl rfl)))
  eb_nil) eb_nil)
  eb_nil))))
  (eb_cons (es_ret (ev_ix (fun _ _ => rfl) ix_all (ev_f (ef_lcIf (own := [("name", 5)]) rfl sc__law_name.nd (all_not rfl) (all_not rfl) (all_in rfl) (ei_seq (ev_f (ef_lc (own := [("number", 7)]) rfl sc__law_name.nd (all_not rfl) (all_not rfl) (all_in rfl) (ei_range1 rfl g.b_range (ea_cons ev_int ea_nil)) (blkOk_by (by rfl)) (fun _ _ _ _ _ => (eg_nm (i := 7) (nmem_of rfl) (nmem_of rfl) sc__law_name.nd rfl (Or.inl rfl))) (fun _ _ _ _ _ => (ev_bin od_add (ev_str [110]) (ev_ty cd_str rfl g.b_str (by decide +kernel) (ea_cons (ev_var (i := 7) (nmem_of rfl) rfl (Or.inl rfl)) ea_nil))))))) (blkOk_by (by rfl)) (fun _ _ _ _ _ => (eg_nm (i := 5) (nmem_of rfl) (nmem_of rfl) sc__law_name.nd rfl (Or.inl rfl))) (fun _ _ _ _ _ => (et_cmp (od_notIn (hu65 hr)) (ev_var (i := 5) (nmem_of rfl) rfl (Or.inl rfl)) (ev_var (i := 1) (nmem_of rfl) rfl (Or.inr (Or.inl rfl))) rfl)) (fun _ _ _ _ _ => (ev_var (i := 5) (nmem_of rfl) rfl (Or.inl rfl))))) ev_int))
  eb_nil)))
/-! _law_names -/
abbrev N__law_names : List Str := ["cup", "many", "found", "turn"]
abbrev ps__law_names : List Str := ["cup", "many"]
theorem sc__law_names : FnScope N__law_names ps__law_names (defScope (top 42)) := ⟨rfl, rfl, rfl, by decide +kernel, rfl, by decide +kernel, by decide +kernel⟩
def B__law_names : SS :=
  (bCons (sSetF 2 (fLst aNil)) (bCons (sFor (iRng rng1 (aCons (eVar 1) aNil)) (gNm 3) (bCons (sExpr (eApp (ePlc 2) (eCallC m__law_name (aCons (ePlc 0) (aCons (ePlc 2) aNil))))) bNil)) (bFrz 2 (bCons (sRet (eF (fBlt bSort (aCons (eVar 2) aNil)))) bNil))))
def m__law_names : FS := ⟨ps__law_names.length, [0], runB N__law_names.length ps__law_names.length [0] B__law_names⟩
@[simp] theorem np__law_names : m__law_names.np = 2 := nr rfl
theorem me__law_names (ds : List D) : m__law_names.m ds = runB 4 2 [0] B__law_names ds := nr rfl
theorem c__law_names (g : G K mg) : CalF P w K mg base (S0 K) 4 "_law_names" m__law_names := by
  obtain ⟨fd, F⟩ := g.f__law_names
  refine cal_of (fn_ev (ow := [0, 2]) (bor := [0]) (B := B__law_names) (fun_of F) sc__law_names (all_in rfl) (hbl_of rfl) (ho_of rfl) fun cdv A outer s H E hr tk => ?_) g.g__law_names F.kp (F.bindsN fun _ _ _ _ _ _ us hl => match us, hl with | [_, _], _ => rfl)
  exact (eb_cons (es_setF (i := 2) (mem_of rfl) (nmem_of rfl) sc__law_names.nd rfl (Or.inl rfl) (ef_lst ea_nil))
  (eb_cons (es_for (passes_of rfl) rfl (ei_range1 rfl g.b_range (ea_cons (ev_var (i := 1) (nmem_of rfl) rfl (Or.inl rfl)) ea_nil)) (eg_nm (i := 3) (nmem_of rfl) (nmem_of rfl) sc__law_names.nd rfl (Or.inl rfl)) (eb_cons (es_expr (ev_app (ev_plc (i := 2) (mem_of rfl) rfl (Or.inl rfl)) (ev_callC tk (c__law_name g) same0 rfl hr (by decide) rfl (ea_cons (ev_plc (i := 0) (mem_of rfl) rfl (Or.inl rfl)) (ea_cons (ev_plc (i := 2) (mem_of rfl) rfl (Or.inl rfl)) ea_nil)))))
  eb_nil))
  (eb_frz (i := 2) (ow' := [0]) (frz_of rfl) (nmem_of rfl) (nmem_of rfl)
  (eb_cons (es_ret (ev_f (ef_blt cf_sort rfl g.b_sorted (by decide +kernel) (ea_cons (ev_var (i := 2) (nmem_of rfl) rfl (Or.inl rfl)) ea_nil))))
  eb_nil))))
/-! _law_holes -/
abbrev N__law_holes : List Str := ["turns", "at", "found", "turn", "later"]
abbrev ps__law_holes : List Str := ["turns"]
theorem sc__law_holes : FnScope N__law_holes ps__law_holes (defScope (top 44)) := ⟨rfl, rfl, rfl, by decide +kernel, rfl, by decide +kernel, by decide +kernel⟩
def B__law_holes : SS :=
  (bCons (sPar [(1, false), (2, true)] (qVal (eC (.int 0)) (qNew (fLst aNil) qNil))) (bCons (sFor (iSeq (eVar 0)) (gNm 3) (bCons (sSet 4 (eBin dAdd (eVar 1) (eVar 3))) (bCons (sExpr (eApp (ePlc 2) (eBin dSub (eBlt bMin2 (aCons (eVar 1) (aCons (eVar 4) aNil))) (eBin dMul (eBin dDiv (eBlt bMin2 (aCons (eVar 1) (aCons (eVar 4) aNil))) (eC (.int 4))) (eC (.int 4)))))) (bCons (sSet 1 (eVar 4)) bNil)))) (bFrz 2 (bCons (sRet (eTup (aCons (eVar 2) (aCons (eBin dSub (eVar 1) (eBin dMul (eBin dDiv (eVar 1) (eC (.int 4))) (eC (.int 4)))) aNil)))) bNil))))
def m__law_holes : FS := ⟨ps__law_holes.length, [], runB N__law_holes.length ps__law_holes.length [] B__law_holes⟩
@[simp] theorem np__law_holes : m__law_holes.np = 1 := nr rfl
theorem me__law_holes (ds : List D) : m__law_holes.m ds = runB 5 1 [] B__law_holes ds := nr rfl
theorem c__law_holes (g : G K mg) : CalF P w K mg base (S0 K) 1 "_law_holes" m__law_holes := by
  obtain ⟨fd, F⟩ := g.f__law_holes
  refine cal_of (fn_ev (ow := [2]) (bor := []) (B := B__law_holes) (fun_of F) sc__law_holes (all_in rfl) (hbl_of rfl) (ho_of rfl) fun cdv A outer s H E hr tk => ?_) g.g__law_holes F.kp (F.bindsN fun _ _ _ _ _ _ us hl => match us, hl with | [_], _ => rfl)
  exact (eb_cons (es_par2 (okT_of rfl) rfl sc__law_holes.nd rfl rfl (by decide) rfl rfl (eq_val ev_int (eq_new (ef_lst ea_nil) eq_nil)) (by rfl))
  (eb_cons (es_for (passes_of rfl) rfl (ei_seq (ev_var (i := 0) (nmem_of rfl) rfl (Or.inl rfl))) (eg_nm (i := 3) (nmem_of rfl) (nmem_of rfl) sc__law_holes.nd rfl (Or.inl rfl)) (eb_cons (es_set (i := 4) (nmem_of rfl) (nmem_of rfl) sc__law_holes.nd rfl (Or.inl rfl) (ev_bin od_add (ev_var (i := 1) (nmem_of rfl) rfl (Or.inl rfl)) (ev_var (i := 3) (nmem_of rfl) rfl (Or.inl rfl))))
  (eb_cons (es_expr (ev_app (ev_plc (i := 2) (mem_of rfl) rfl (Or.inl rfl)) (ev_bin od_sub (ev_blt (cd_min2 rfl) rfl g.b_min (by decide +kernel) (ea_cons (ev_var (i := 1) (nmem_of rfl) rfl (Or.inl rfl)) (ea_cons (ev_var (i := 4) (nmem_of rfl) rfl (Or.inl rfl)) ea_nil))) (ev_bin od_mul (ev_bin od_div (ev_blt (cd_min2 rfl) rfl g.b_min (by decide +kernel) (ea_cons (ev_var (i := 1) (nmem_of rfl) rfl (Or.inl rfl)) (ea_cons (ev_var (i := 4) (nmem_of rfl) rfl (Or.inl rfl)) ea_nil))) ev_int) ev_int))))
  (eb_cons (es_set (i := 1) (nmem_of rfl) (nmem_of rfl) sc__law_holes.nd rfl (Or.inl rfl) (ev_var (i := 4) (nmem_of rfl) rfl (Or.inl rfl)))
  eb_nil))))
  (eb_frz (i := 2) (ow' := []) (frz_of rfl) (nmem_of rfl) (nmem_of rfl)
  (eb_cons (es_ret (ev_tup (ea_cons (ev_var (i := 2) (nmem_of rfl) rfl (Or.inl rfl)) (ea_cons (ev_bin od_sub (ev_var (i := 1) (nmem_of rfl) rfl (Or.inl rfl)) (ev_bin od_mul (ev_bin od_div (ev_var (i := 1) (nmem_of rfl) rfl (Or.inl rfl)) ev_int) ev_int)) ea_nil))))
  eb_nil))))
/-! _law_near -/
abbrev N__law_near : List Str := ["cup", "pack", "at", "slant", "names", "odds", "odd"]
abbrev ps__law_near : List Str := ["cup", "pack"]
theorem sc__law_near : FnScope N__law_near ps__law_near (defScope (top 49)) := ⟨rfl, rfl, rfl, by decide +kernel, rfl, by decide +kernel, by decide +kernel⟩
def B__law_near : SS :=
  (bCons (sSet 2 (eCallC m__law_roll (aCons (ePlc 0) (aCons (eBlt bLen (aCons (eVar 1) aNil)) aNil)))) (bCons (sAsgN (gTupD 2 (gsCons (gNm 3) (gsCons (gNm 4) gsNil))) (eBin dIx (eVar 1) (eVar 2))) (bCons (sSet 5 (eF (fLst (aCons (eC .non) (aCons (eTup aNil) (aCons (eTup (aCons (eVar 3) aNil)) (aCons (eF (fLst (aCons (eVar 3) (aCons (eVar 4) aNil)))) (aCons (eTup (aCons (eVar 3) (aCons (eF (fBlt bLst (aCons (eVar 4) aNil))) aNil))) (aCons (eTup (aCons (eVar 3) (aCons (eSl (eVar 4) (pSome (eC (.int 1))) pNone) aNil))) (aCons (eTup (aCons (eVar 3) (aCons (eBin dAdd (eVar 4) (eSl (eVar 4) pNone (pSome (eC (.int 1))))) aNil))) (aCons (eTup (aCons (eC (.str [120])) (aCons (eVar 4) aNil))) aNil))))))))))) (bCons (sSet 5 (eBin dAdd (eVar 5) (eF (fLst (aCons (eTup (aCons (eC (.str [83])) (aCons (eVar 4) aNil))) (aCons (eTup (aCons (eC (.str [])) (aCons (eVar 4) aNil))) (aCons (eTup (aCons (eVar 4) (aCons (eVar 3) aNil))) aNil))))))) (bCons (sSet 5 (eBin dAdd (eBin dAdd (eVar 5) (eF (fLc [6] (iSeq (eTup (aCons (eC .non) (aCons (eC (.str [])) (aCons (eC (.str [65])) (aCons (eC (.str [49, 97])) (aCons (eBin dMul (eC (.str [97])) (eC (.int 13))) (aCons (eC (.int 0)) (aCons (eTup (aCons (eC (.str [97])) aNil)) (aCons (eC (.str [97, 32, 98])) aNil)))))))))) (gNm 6) cYes (eTup (aCons (eVar 3) (aCons (eBin dAdd (eSl (eVar 4) pNone (pSome (eC (.int 3)))) (eTup (aCons (eVar 6) aNil))) aNil)))))) (eF (fLst (aCons (eTup (aCons (eC (.str [115, 122])) (aCons (eVar 4) aNil))) (aCons (eTup (aCons (eC .non) (aCons (eVar 4) aNil))) aNil)))))) (bCons (sRet (eBin dAdd (eF (fLc [6] (iSeq (eVar 5)) (gNm 6) cYes (eBin dAdd (eBin dAdd (eSl (eVar 1) pNone (pSome (eVar 2))) (eTup (aCons (eVar 6) aNil))) (eSl (eVar 1) (pSome (eBin dAdd (eVar 2) (eC (.int 1)))) pNone)))) (eF (fLst (aCons (eC .non) (aCons (eTup aNil) (aCons (eF (fBlt bLst (aCons (eVar 1) aNil))) (aCons (eBin dMul (eVar 1) (eC (.int 9))) (aCons (eBin dIx (eVar 1) (eVar 2)) (aCons (eBin dAdd (eVar 1) (eTup (aCons (eC .non) aNil))) (aCons (eTup (aCons (eVar 1) aNil)) aNil))))))))))) bNil))))))
def m__law_near : FS := ⟨ps__law_near.length, [0], runB N__law_near.length ps__law_near.length [0] B__law_near⟩
@[simp] theorem np__law_near : m__law_near.np = 2 := nr rfl
theorem me__law_near (ds : List D) : m__law_near.m ds = runB 7 2 [0] B__law_near ds := nr rfl
theorem c__law_near (g : G K mg) : CalF P w K mg base (S0 K) 2 "_law_near" m__law_near := by
  obtain ⟨fd, F⟩ := g.f__law_near
  refine cal_of (fn_ev (ow := [0]) (bor := [0]) (B := B__law_near) (fun_of F) sc__law_near (all_in rfl) (hbl_of rfl) (ho_of rfl) fun cdv A outer s H E hr tk => ?_) g.g__law_near F.kp (F.bindsN fun _ _ _ _ _ _ us hl => match us, hl with | [_, _], _ => rfl)
  exact (eb_cons (es_set (i := 2) (nmem_of rfl) (nmem_of rfl) sc__law_near.nd rfl (Or.inr rfl) (ev_callC tk (c__law_roll g) same0 rfl hr (by decide) rfl (ea_cons (ev_plc (i := 0) (mem_of rfl) rfl (Or.inl rfl)) (ea_cons (ev_blt cd_len rfl g.b_len (by decide +kernel) (ea_cons (ev_var (i := 1) (nmem_of rfl) rfl (Or.inr (Or.inl rfl))) ea_nil)) ea_nil))))
  (eb_cons (es_asg (ev_ix (fun _ _ => rfl) ix_all (ev_var (i := 1) (nmem_of rfl) rfl (Or.inr (Or.inl rfl))) (ev_var (i := 2) (nmem_of rfl) rfl (Or.inr (Or.inl rfl)))) (eg_tup rfl (egs_cons (eg_nm (i := 3) (nmem_of rfl) (nmem_of rfl) sc__law_near.nd rfl (Or.inr rfl)) (egs_cons (eg_nm (i := 4) (nmem_of rfl) (nmem_of rfl) sc__law_near.nd rfl (Or.inr rfl)) egs_nil))))
  (eb_cons (es_set (i := 5) (nmem_of rfl) (nmem_of rfl) sc__law_near.nd rfl (Or.inl rfl) (ev_f (ef_lst (ea_cons ev_non (ea_cons (ev_tup ea_nil) (ea_cons (ev_tup (ea_cons (ev_var (i := 3) (nmem_of rfl) rfl (Or.inr (Or.inl rfl))) ea_nil)) (ea_cons (ev_f (ef_lst (ea_cons (ev_var (i := 3) (nmem_of rfl) rfl (Or.inr (Or.inl rfl))) (ea_cons (ev_var (i := 4) (nmem_of rfl) rfl (Or.inr (Or.inl rfl))) ea_nil)))) (ea_cons (ev_tup (ea_cons (ev_var (i := 3) (nmem_of rfl) rfl (Or.inr (Or.inl rfl))) (ea_cons (ev_f (ef_ty cf_lst rfl g.b_list (by decide +kernel) (ea_cons (ev_var (i := 4) (nmem_of rfl) rfl (Or.inr (Or.inl rfl))) ea_nil))) ea_nil))) (ea_cons (ev_tup (ea_cons (ev_var (i := 3) (nmem_of rfl) rfl (Or.inr (Or.inl rfl))) (ea_cons (ev_slice (ev_var (i := 4) (nmem_of rfl) rfl (Or.inr (Or.inl rfl))) (ep_some ev_int) ep_none) ea_nil))) (ea_cons (ev_tup (ea_cons (ev_var (i := 3) (nmem_of rfl) rfl (Or.inr (Or.inl rfl))) (ea_cons (ev_bin od_add (ev_var (i := 4) (nmem_of rfl) rfl (Or.inr (Or.inl rfl))) (ev_slice (ev_var (i := 4) (nmem_of rfl) rfl (Or.inr (Or.inl rfl))) ep_none (ep_some ev_int))) ea_nil))) (ea_cons (ev_tup (ea_cons (ev_str [120]) (ea_cons (ev_var (i := 4) (nmem_of rfl) rfl (Or.inr (Or.inl rfl))) ea_nil))) ea_nil)))))))))))
  (eb_cons (es_set (i := 5) (nmem_of rfl) (nmem_of rfl) sc__law_near.nd rfl (Or.inl rfl) (ev_bin od_add (ev_var (i := 5) (nmem_of rfl) rfl (Or.inl rfl)) (ev_f (ef_lst (ea_cons (ev_tup (ea_cons (ev_str [83]) (ea_cons (ev_var (i := 4) (nmem_of rfl) rfl (Or.inr (Or.inl rfl))) ea_nil))) (ea_cons (ev_tup (ea_cons (ev_str []) (ea_cons (ev_var (i := 4) (nmem_of rfl) rfl (Or.inr (Or.inl rfl))) ea_nil))) (ea_cons (ev_tup (ea_cons (ev_var (i := 4) (nmem_of rfl) rfl (Or.inr (Or.inl rfl))) (ea_cons (ev_var (i := 3) (nmem_of rfl) rfl (Or.inr (Or.inl rfl))) ea_nil))) ea_nil)))))))
  (eb_cons (es_set (i := 5) (nmem_of rfl) (nmem_of rfl) sc__law_near.nd rfl (Or.inl rfl) (ev_bin od_add (ev_bin od_add (ev_var (i := 5) (nmem_of rfl) rfl (Or.inl rfl)) (ev_f (ef_lc (own := [("odd", 6)]) rfl sc__law_near.nd (all_not rfl) (all_not rfl) (all_in rfl) (ei_seq (ev_tup (ea_cons ev_non (ea_cons (ev_str []) (ea_cons (ev_str [65]) (ea_cons (ev_str [49, 97]) (ea_cons (ev_bin od_mul (ev_str [97]) ev_int) (ea_cons ev_int (ea_cons (ev_tup (ea_cons (ev_str [97]) ea_nil)) (ea_cons (ev_str [97, 32, 98]) ea_nil)))))))))) (blkOk_by (by rfl)) (fun _ _ _ _ _ => (eg_nm (i := 6) (nmem_of rfl) (nmem_of rfl) sc__law_near.nd rfl (Or.inl rfl))) (fun _ _ _ _ _ => (ev_tup (ea_cons (ev_var (i := 3) (nmem_of rfl) rfl (Or.inr (Or.inl rfl))) (ea_cons (ev_bin od_add (ev_slice (ev_var (i := 4) (nmem_of rfl) rfl (Or.inr (Or.inl rfl))) ep_none (ep_some ev_int)) (ev_tup (ea_cons (ev_var (i := 6) (nmem_of rfl) rfl (Or.inl rfl)) ea_nil))) ea_nil))))))) (ev_f (ef_lst (ea_cons (ev_tup (ea_cons (ev_str [115, 122]) (ea_cons (ev_var (i := 4) (nmem_of rfl) rfl (Or.inr (Or.inl rfl))) ea_nil))) (ea_cons (ev_tup (ea_cons ev_non (ea_cons (ev_var (i := 4) (nmem_of rfl) rfl (Or.inr (Or.inl rfl))) ea_nil))) ea_nil))))))
  (eb_cons (es_ret (ev_bin od_add (ev_f (ef_lc (own := [("odd", 6)]) rfl sc__law_near.nd (all_not rfl) (all_not rfl) (all_in rfl) (ei_seq (ev_var (i := 5) (nmem_of rfl) rfl (Or.inl rfl))) (blkOk_by (by rfl)) (fun _ _ _ _ _ => (eg_nm (i := 6) (nmem_of rfl) (nmem_of rfl) sc__law_near.nd rfl (Or.inl rfl))) (fun _ _ _ _ _ => (ev_bin od_add (ev_bin od_add (ev_slice (ev_var (i := 1) (nmem_of rfl) rfl (Or.inr (Or.inl rfl))) ep_none (ep_some (ev_var (i := 2) (nmem_of rfl) rfl (Or.inr (Or.inl rfl))))) (ev_tup (ea_cons (ev_var (i := 6) (nmem_of rfl) rfl (Or.inl rfl)) ea_nil))) (ev_slice (ev_var (i := 1) (nmem_of rfl) rfl (Or.inr (Or.inl rfl))) (ep_some (ev_bin od_add (ev_var (i := 2) (nmem_of rfl) rfl (Or.inr (Or.inl rfl))) ev_int)) ep_none))))) (ev_f (ef_lst (ea_cons ev_non (ea_cons (ev_tup ea_nil) (ea_cons (ev_f (ef_ty cf_lst rfl g.b_list (by decide +kernel) (ea_cons (ev_var (i := 1) (nmem_of rfl) rfl (Or.inr (Or.inl rfl))) ea_nil))) (ea_cons (ev_bin od_mul (ev_var (i := 1) (nmem_of rfl) rfl (Or.inr (Or.inl rfl))) ev_int) (ea_cons (ev_ix (fun _ _ => rfl) ix_all (ev_var (i := 1) (nmem_of rfl) rfl (Or.inr (Or.inl rfl))) (ev_var (i := 2) (nmem_of rfl) rfl (Or.inr (Or.inl rfl)))) (ea_cons (ev_bin od_add (ev_var (i := 1) (nmem_of rfl) rfl (Or.inr (Or.inl rfl))) (ev_tup (ea_cons ev_non ea_nil))) (ea_cons (ev_tup (ea_cons (ev_var (i := 1) (nmem_of rfl) rfl (Or.inr (Or.inl rfl))) ea_nil)) ea_nil)))))))))))
  eb_nil))))))
/-! is_pack -/
abbrev N_is_pack : List Str := ["value"]
abbrev ps_is_pack : List Str := ["value"]
theorem sc_is_pack : FnScope N_is_pack ps_is_pack (defScope (top 24)) := ⟨rfl, rfl, rfl, by decide +kernel, rfl, by decide +kernel, by decide +kernel⟩
def B_is_pack : SS :=
  (bCons (sRet (eCall m_fits_pack (aCons (eVar 0) aNil))) bNil)
def m_is_pack : FS := ⟨ps_is_pack.length, [], runB N_is_pack.length ps_is_pack.length [] B_is_pack⟩
@[simp] theorem np_is_pack : m_is_pack.np = 1 := nr rfl
theorem me_is_pack (ds : List D) : m_is_pack.m ds = runB 1 1 [] B_is_pack ds := nr rfl
theorem c_is_pack (g : G K mg) : CalF P w K mg base (S0 K) 5 "is_pack" m_is_pack := by
  obtain ⟨fd, F⟩ := g.f_is_pack
  refine cal_of (fn_ev (ow := []) (bor := []) (B := B_is_pack) (fun_of F) sc_is_pack (all_in rfl) (hbl_of rfl) (ho_of rfl) fun cdv A outer s H E hr tk => ?_) g.g_is_pack F.kp (F.bindsN fun _ _ _ _ _ _ us hl => match us, hl with | [_], _ => rfl)
  exact (eb_cons (es_ret (ev_call tk (c_fits_pack g) same0 rfl hr (by decide) rfl (ea_cons (ev_var (i := 0) (nmem_of rfl) rfl (Or.inl rfl)) ea_nil)))
  eb_nil)
/-! _law_is_name -/
abbrev N__law_is_name : List Str := ["value", "letters", "sign"]
abbrev ps__law_is_name : List Str := ["value"]
theorem sc__law_is_name : FnScope N__law_is_name ps__law_is_name (defScope (top 45)) := ⟨rfl, rfl, rfl, by decide +kernel, rfl, by decide +kernel, by decide +kernel⟩
def B__law_is_name : SS :=
  (bCons (sSet 1 (eC (.str [97, 98, 99, 100, 101, 102, 103, 104, 105, 106, 107, 108, 109, 110, 111, 112, 113, 114, 115, 116, 117, 118, 119, 120, 121, 122]))) (bCons (sIf (tOr (tNot (tTru (eIsi 2 (eVar 0)))) (tOr (tNot (tB (eChain dLE dLE (eC (.int 1)) (eBlt bLen (aCons (eVar 0) aNil)) (eC (.int 12))))) (tB (eBin (dIn not) (eBin dIx (eVar 0) (eC (.int 0))) (eVar 1))))) (bCons (sRet (eC (.bl false))) bNil) bNil) (bCons (sRet (eBin dEq (eF (fLc [2] (iSeq (eVar 0)) (gNm 2) (tB (eBin (dIn not) (eVar 2) (eBin dAdd (eVar 1) (eC (.str [48, 49, 50, 51, 52, 53, 54, 55, 56, 57]))))) (eVar 2))) (eF (fLst aNil)))) bNil)))
def m__law_is_name : FS := ⟨ps__law_is_name.length, [], runB N__law_is_name.length ps__law_is_name.length [] B__law_is_name⟩
@[simp] theorem np__law_is_name : m__law_is_name.np = 1 := nr rfl
theorem me__law_is_name (ds : List D) : m__law_is_name.m ds = runB 3 1 [] B__law_is_name ds := nr rfl
theorem c__law_is_name (g : G K mg) : CalF P w K mg base (S0 K) 1 "_law_is_name" m__law_is_name := by
  obtain ⟨fd, F⟩ := g.f__law_is_name
  refine cal_of (fn_ev (ow := []) (bor := []) (B := B__law_is_name) (fun_of F) sc__law_is_name (all_in rfl) (hbl_of rfl) (ho_of rfl) fun cdv A outer s H E hr tk => ?_) g.g__law_is_name F.kp (F.bindsN fun _ _ _ _ _ _ us hl => match us, hl with | [_], _ => rfl)
  exact (eb_cons (es_set (i := 1) (nmem_of rfl) (nmem_of rfl) sc__law_is_name.nd rfl (Or.inr rfl) (ev_str [97, 98, 99, 100, 101, 102, 103, 104, 105, 106, 107, 108, 109, 110, 111, 112, 113, 114, 115, 116, 117, 118, 119, 120, 121, 122]))
  (eb_cons (es_if (EvW.t (ew_or (et_not (et_truth (ev_isi 2 (by decide) rfl g.b_isinstance rfl g.b_str (by decide +kernel) (ev_var (i := 0) (nmem_of rfl) rfl (Or.inl rfl))) (fun _ => rfl))) (ew_or (et_not (et_chain (od_LE (hu64 hr)) (od_LE (hu64 hr)) ev_int (ev_blt cd_len rfl g.b_len (by decide +kernel) (ea_cons (ev_var (i := 0) (nmem_of rfl) rfl (Or.inl rfl)) ea_nil)) ev_int)) (ew_or1 (et_cmp (od_notIn (hu65 hr)) (ev_ix (fun _ _ => rfl) ix_all (ev_var (i := 0) (nmem_of rfl) rfl (Or.inl rfl)) ev_int) (ev_var (i := 1) (nmem_of rfl) rfl (Or.inr (Or.inl rfl))) rfl))))) (eb_cons (es_ret ev_bl)
  eb_nil) eb_nil)
  (eb_cons (es_ret (ev_cmp (od_eq (hu64 hr)) (ev_f (ef_lcIf (own := [("sign", 2)]) rfl sc__law_is_name.nd (all_not rfl) (all_not rfl) (all_in rfl) (ei_seq (ev_var (i := 0) (nmem_of rfl) rfl (Or.inl rfl))) (blkOk_by (by rfl)) (fun _ _ _ _ _ => (eg_nm (i := 2) (nmem_of rfl) (nmem_of rfl) sc__law_is_name.nd rfl (Or.inl rfl))) (fun _ _ _ _ _ => (et_cmp (od_notIn (hu65 hr)) (ev_var (i := 2) (nmem_of rfl) rfl (Or.inl rfl)) (ev_bin od_add (ev_var (i := 1) (nmem_of rfl) rfl (Or.inr (Or.inl rfl))) (ev_str [48, 49, 50, 51, 52, 53, 54, 55, 56, 57])) rfl)) (fun _ _ _ _ _ => (ev_var (i := 2) (nmem_of rfl) rfl (Or.inl rfl))))) (ev_f (ef_lst ea_nil)) rfl))
  eb_nil)))
/-! _law_is_tablet -/
abbrev N__law_is_tablet : List Str := ["value", "name"]
abbrev ps__law_is_tablet : List Str := ["value"]
theorem sc__law_is_tablet : FnScope N__law_is_tablet ps__law_is_tablet (defScope (top 46)) := ⟨rfl, rfl, rfl, by decide +kernel, rfl, by decide +kernel, by decide +kernel⟩
def B__law_is_tablet : SS :=
  (bCons (sIf (tOr (tNot (tTru (eIsi 3 (eVar 0)))) (tOr (tB (eBin dNe (eBlt bLen (aCons (eVar 0) aNil)) (eC (.int 2)))) (tOr (tNot (tTru (eIsi 2 (eBin dIx (eVar 0) (eC (.int 0)))))) (tB (eBin (dIn not) (eBin dIx (eVar 0) (eC (.int 0))) (eTup (aCons (eC (.str [115])) (aCons (eC (.str [122])) aNil)))))))) (bCons (sRet (eC (.bl false))) bNil) bNil) (bCons (sRet (eAnd (eIsi 3 (eBin dIx (eVar 0) (eC (.int 1)))) (eAnd (eBin dEq (eBlt bLen (aCons (eBin dIx (eVar 0) (eC (.int 1))) aNil)) (eC (.int 4))) (eBin dEq (eF (fLc [1] (iSeq (eBin dIx (eVar 0) (eC (.int 1)))) (gNm 1) (tNot (tTru (eCall m__law_is_name (aCons (eVar 1) aNil)))) (eVar 1))) (eF (fLst aNil)))))) bNil))
def m__law_is_tablet : FS := ⟨ps__law_is_tablet.length, [], runB N__law_is_tablet.length ps__law_is_tablet.length [] B__law_is_tablet⟩
@[simp] theorem np__law_is_tablet : m__law_is_tablet.np = 1 := nr rfl
theorem me__law_is_tablet (ds : List D) : m__law_is_tablet.m ds = runB 2 1 [] B__law_is_tablet ds := nr rfl
theorem c__law_is_tablet (g : G K mg) : CalF P w K mg base (S0 K) 2 "_law_is_tablet" m__law_is_tablet := by
  obtain ⟨fd, F⟩ := g.f__law_is_tablet
  refine cal_of (fn_ev (ow := []) (bor := []) (B := B__law_is_tablet) (fun_of F) sc__law_is_tablet (all_in rfl) (hbl_of rfl) (ho_of rfl) fun cdv A outer s H E hr tk => ?_) g.g__law_is_tablet F.kp (F.bindsN fun _ _ _ _ _ _ us hl => match us, hl with | [_], _ => rfl)
  exact (eb_cons (es_if (EvW.t (ew_or (et_not (et_truth (ev_isi 3 (by decide) rfl g.b_isinstance rfl g.b_tuple (by decide +kernel) (ev_var (i := 0) (nmem_of rfl) rfl (Or.inl rfl))) (fun _ => rfl))) (ew_or (et_cmp (od_ne (hu64 hr)) (ev_blt cd_len rfl g.b_len (by decide +kernel) (ea_cons (ev_var (i := 0) (nmem_of rfl) rfl (Or.inl rfl)) ea_nil)) ev_int rfl) (ew_or (et_not (et_truth (ev_isi 2 (by decide) rfl g.b_isinstance rfl g.b_str (by decide +kernel) (ev_ix (fun _ _ => rfl) ix_all (ev_var (i := 0) (nmem_of rfl) rfl (Or.inl rfl)) ev_int)) (fun _ => rfl))) (ew_or1 (et_cmp (od_notIn (hu65 hr)) (ev_ix (fun _ _ => rfl) ix_all (ev_var (i := 0) (nmem_of rfl) rfl (Or.inl rfl)) ev_int) (ev_tup (ea_cons (ev_str [115]) (ea_cons (ev_str [122]) ea_nil))) rfl)))))) (eb_cons (es_ret ev_bl)
  eb_nil) eb_nil)
  (eb_cons (es_ret (ev_and (ev_isi 3 (by decide) rfl g.b_isinstance rfl g.b_tuple (by decide +kernel) (ev_ix (fun _ _ => rfl) ix_all (ev_var (i := 0) (nmem_of rfl) rfl (Or.inl rfl)) ev_int)) (ev_and (ev_cmp (od_eq (hu64 hr)) (ev_blt cd_len rfl g.b_len (by decide +kernel) (ea_cons (ev_ix (fun _ _ => rfl) ix_all (ev_var (i := 0) (nmem_of rfl) rfl (Or.inl rfl)) ev_int) ea_nil)) ev_int rfl) (ev_one (ev_cmp (od_eq (hu64 hr)) (ev_f (ef_lcIf (own := [("name", 1)]) rfl sc__law_is_tablet.nd (all_not rfl) (all_not rfl) (all_in rfl) (ei_seq (ev_ix (fun _ _ => rfl) ix_all (ev_var (i := 0) (nmem_of rfl) rfl (Or.inl rfl)) ev_int)) (blkOk_by (by rfl)) (fun _ _ _ _ _ => (eg_nm (i := 1) (nmem_of rfl) (nmem_of rfl) sc__law_is_tablet.nd rfl (Or.inl rfl))) (fun _ _ _ _ _ => (et_not (et_truth (ev_call takes0 (c__law_is_name g) same0 rfl hr (by decide) rfl (ea_cons (ev_var (i := 1) (nmem_of rfl) rfl (Or.inl rfl)) ea_nil)) (fun _ => rfl)))) (fun _ _ _ _ _ => (ev_var (i := 1) (nmem_of rfl) rfl (Or.inl rfl))))) (ev_f (ef_lst ea_nil)) rfl)))))
  eb_nil))
/-! _law_is_pack -/
abbrev N__law_is_pack : List Str := ["value", "tablet"]
abbrev ps__law_is_pack : List Str := ["value"]
theorem sc__law_is_pack : FnScope N__law_is_pack ps__law_is_pack (defScope (top 47)) := ⟨rfl, rfl, rfl, by decide +kernel, rfl, by decide +kernel, by decide +kernel⟩
def B__law_is_pack : SS :=
  (bCons (sRet (eAnd (eIsi 3 (eVar 0)) (eAnd (eChain dLE dLE (eC (.int 1)) (eBlt bLen (aCons (eVar 0) aNil)) (eC (.int 8))) (eBin dEq (eF (fLc [1] (iSeq (eVar 0)) (gNm 1) (tNot (tTru (eCall m__law_is_tablet (aCons (eVar 1) aNil)))) (eVar 1))) (eF (fLst aNil)))))) bNil)
def m__law_is_pack : FS := ⟨ps__law_is_pack.length, [], runB N__law_is_pack.length ps__law_is_pack.length [] B__law_is_pack⟩
@[simp] theorem np__law_is_pack : m__law_is_pack.np = 1 := nr rfl
theorem me__law_is_pack (ds : List D) : m__law_is_pack.m ds = runB 2 1 [] B__law_is_pack ds := nr rfl
theorem c__law_is_pack (g : G K mg) : CalF P w K mg base (S0 K) 3 "_law_is_pack" m__law_is_pack := by
  obtain ⟨fd, F⟩ := g.f__law_is_pack
  refine cal_of (fn_ev (ow := []) (bor := []) (B := B__law_is_pack) (fun_of F) sc__law_is_pack (all_in rfl) (hbl_of rfl) (ho_of rfl) fun cdv A outer s H E hr tk => ?_) g.g__law_is_pack F.kp (F.bindsN fun _ _ _ _ _ _ us hl => match us, hl with | [_], _ => rfl)
  exact (eb_cons (es_ret (ev_and (ev_isi 3 (by decide) rfl g.b_isinstance rfl g.b_tuple (by decide +kernel) (ev_var (i := 0) (nmem_of rfl) rfl (Or.inl rfl))) (ev_and (ev_chain (od_LE (hu64 hr)) (od_LE (hu64 hr)) ev_int (ev_blt cd_len rfl g.b_len (by decide +kernel) (ea_cons (ev_var (i := 0) (nmem_of rfl) rfl (Or.inl rfl)) ea_nil)) ev_int) (ev_one (ev_cmp (od_eq (hu64 hr)) (ev_f (ef_lcIf (own := [("tablet", 1)]) rfl sc__law_is_pack.nd (all_not rfl) (all_not rfl) (all_in rfl) (ei_seq (ev_var (i := 0) (nmem_of rfl) rfl (Or.inl rfl))) (blkOk_by (by rfl)) (fun _ _ _ _ _ => (eg_nm (i := 1) (nmem_of rfl) (nmem_of rfl) sc__law_is_pack.nd rfl (Or.inl rfl))) (fun _ _ _ _ _ => (et_not (et_truth (ev_call takes0 (c__law_is_tablet g) same0 rfl hr (by decide) rfl (ea_cons (ev_var (i := 1) (nmem_of rfl) rfl (Or.inl rfl)) ea_nil)) (fun _ => rfl)))) (fun _ _ _ _ _ => (ev_var (i := 1) (nmem_of rfl) rfl (Or.inl rfl))))) (ev_f (ef_lst ea_nil)) rfl)))))
  eb_nil)
/-! _law_near_rows -/
abbrev N__law_near_rows : List Str := ["cup", "pack", "rows", "at", "row", "odds", "found", "odd", "tablet"]
abbrev ps__law_near_rows : List Str := ["cup", "pack", "rows"]
theorem sc__law_near_rows : FnScope N__law_near_rows ps__law_near_rows (defScope (top 50)) := ⟨rfl, rfl, rfl, by decide +kernel, rfl, by decide +kernel, by decide +kernel⟩
def B__law_near_rows : SS :=
  (bCons (sAsgN (gTupD 2 (gsCons (gNm 3) (gsCons (gNm 4) gsNil))) (eTup (aCons (eCallC m__law_roll (aCons (ePlc 0) (aCons (eBin dAdd (eBlt bLen (aCons (eVar 2) aNil)) (eC (.int 1))) aNil))) (aCons (eBlt bTup (aCons (eF (fLc [8] (iSeq (eVar 1)) (gNm 8) cYes (eC (.int 1)))) aNil)) aNil)))) (bCons (sSet 5 (eF (fLst (aCons (eVar 4) (aCons (eTup aNil) (aCons (eSl (eVar 4) (pSome (eC (.int 1))) pNone) (aCons (eBin dAdd (eVar 4) (eTup (aCons (eC (.int 1)) aNil))) (aCons (eF (fBlt bLst (aCons (eVar 4) aNil))) (aCons (eC .non) (aCons (eBin dAdd (eTup (aCons (eC (.int 0)) aNil)) (eSl (eVar 4) (pSome (eC (.int 1))) pNone)) (aCons (eBin dAdd (eTup (aCons (eC (.bl true)) aNil)) (eSl (eVar 4) (pSome (eC (.int 1))) pNone)) (aCons (eBin dAdd (eTup (aCons (eC (.int 2)) aNil)) (eSl (eVar 4) (pSome (eC (.int 1))) pNone)) (aCons (eBin dAdd (eTup (aCons (eC (.str [49])) aNil)) (eSl (eVar 4) (pSome (eC (.int 1))) pNone)) (aCons (eBin dAdd (eTup (aCons (eUn dNeg (eC (.int 1))) aNil)) (eSl (eVar 4) (pSome (eC (.int 1))) pNone)) (aCons (eBin dAdd (eTup (aCons (eC .non) aNil)) (eSl (eVar 4) (pSome (eC (.int 1))) pNone)) aNil))))))))))))))) (bCons (sSet 6 (eF (fLc [7] (iSeq (eVar 5)) (gNm 7) cYes (eBin dAdd (eBin dAdd (eSl (eVar 2) pNone (pSome (eVar 3))) (eTup (aCons (eVar 7) aNil))) (eSl (eVar 2) (pSome (eVar 3)) pNone))))) (bCons (sRet (eBin dAdd (eVar 6) (eF (fLst (aCons (eC .non) (aCons (eTup aNil) (aCons (eF (fBlt bLst (aCons (eVar 2) aNil))) (aCons (eUn dRev (eVar 2)) (aCons (eBin dMul (eTup (aCons (eVar 4) aNil)) (eC (.int 40))) (aCons (eBin dMul (eTup (aCons (eVar 4) aNil)) (eC (.int 41))) (aCons (eVar 4) aNil))))))))))) bNil))))
def m__law_near_rows : FS := ⟨ps__law_near_rows.length, [0], runB N__law_near_rows.length ps__law_near_rows.length [0] B__law_near_rows⟩
@[simp] theorem np__law_near_rows : m__law_near_rows.np = 3 := nr rfl
theorem me__law_near_rows (ds : List D) : m__law_near_rows.m ds = runB 9 3 [0] B__law_near_rows ds := nr rfl
theorem c__law_near_rows (g : G K mg) : CalF P w K mg base (S0 K) 2 "_law_near_rows" m__law_near_rows := by
  obtain ⟨fd, F⟩ := g.f__law_near_rows
  refine cal_of (fn_ev (ow := [0]) (bor := [0]) (B := B__law_near_rows) (fun_of F) sc__law_near_rows (all_in rfl) (hbl_of rfl) (ho_of rfl) fun cdv A outer s H E hr tk => ?_) g.g__law_near_rows F.kp (F.bindsN fun _ _ _ _ _ _ us hl => match us, hl with | [_, _, _], _ => rfl)
  exact (eb_cons (es_asg (ev_tup (ea_cons (ev_callC tk (c__law_roll g) same0 rfl hr (by decide) rfl (ea_cons (ev_plc (i := 0) (mem_of rfl) rfl (Or.inl rfl)) (ea_cons (ev_bin od_add (ev_blt cd_len rfl g.b_len (by decide +kernel) (ea_cons (ev_var (i := 2) (nmem_of rfl) rfl (Or.inr (Or.inl rfl))) ea_nil)) ev_int) ea_nil))) (ea_cons (ev_ty cd_tup rfl g.b_tuple (by decide +kernel) (ea_cons (ev_f (ef_lc (own := [("tablet", 8)]) rfl sc__law_near_rows.nd (all_not rfl) (all_not rfl) (all_in rfl) (ei_seq (ev_var (i := 1) (nmem_of rfl) rfl (Or.inl rfl))) (blkOk_by (by rfl)) (fun _ _ _ _ _ => (eg_nm (i := 8) (nmem_of rfl) (nmem_of rfl) sc__law_near_rows.nd rfl (Or.inl rfl))) (fun _ _ _ _ _ => ev_int))) ea_nil)) ea_nil))) (eg_tup rfl (egs_cons (eg_nm (i := 3) (nmem_of rfl) (nmem_of rfl) sc__law_near_rows.nd rfl (Or.inr rfl)) (egs_cons (eg_nm (i := 4) (nmem_of rfl) (nmem_of rfl) sc__law_near_rows.nd rfl (Or.inl rfl)) egs_nil))))
  (eb_cons (es_set (i := 5) (nmem_of rfl) (nmem_of rfl) sc__law_near_rows.nd rfl (Or.inl rfl) (ev_f (ef_lst (ea_cons (ev_var (i := 4) (nmem_of rfl) rfl (Or.inl rfl)) (ea_cons (ev_tup ea_nil) (ea_cons (ev_slice (ev_var (i := 4) (nmem_of rfl) rfl (Or.inl rfl)) (ep_some ev_int) ep_none) (ea_cons (ev_bin od_add (ev_var (i := 4) (nmem_of rfl) rfl (Or.inl rfl)) (ev_tup (ea_cons ev_int ea_nil))) (ea_cons (ev_f (ef_ty cf_lst rfl g.b_list (by decide +kernel) (ea_cons (ev_var (i := 4) (nmem_of rfl) rfl (Or.inl rfl)) ea_nil))) (ea_cons ev_non (ea_cons (ev_bin od_add (ev_tup (ea_cons ev_int ea_nil)) (ev_slice (ev_var (i := 4) (nmem_of rfl) rfl (Or.inl rfl)) (ep_some ev_int) ep_none)) (ea_cons (ev_bin od_add (ev_tup (ea_cons ev_bl ea_nil)) (ev_slice (ev_var (i := 4) (nmem_of rfl) rfl (Or.inl rfl)) (ep_some ev_int) ep_none)) (ea_cons (ev_bin od_add (ev_tup (ea_cons ev_int ea_nil)) (ev_slice (ev_var (i := 4) (nmem_of rfl) rfl (Or.inl rfl)) (ep_some ev_int) ep_none)) (ea_cons (ev_bin od_add (ev_tup (ea_cons (ev_str [49]) ea_nil)) (ev_slice (ev_var (i := 4) (nmem_of rfl) rfl (Or.inl rfl)) (ep_some ev_int) ep_none)) (ea_cons (ev_bin od_add (ev_tup (ea_cons (ev_un ud_neg ev_int) ea_nil)) (ev_slice (ev_var (i := 4) (nmem_of rfl) rfl (Or.inl rfl)) (ep_some ev_int) ep_none)) (ea_cons (ev_bin od_add (ev_tup (ea_cons ev_non ea_nil)) (ev_slice (ev_var (i := 4) (nmem_of rfl) rfl (Or.inl rfl)) (ep_some ev_int) ep_none)) ea_nil)))))))))))))))
  (eb_cons (es_setLc (lc_parts (own := [("odd", 7)]) (i := 6) rfl sc__law_near_rows.nd (all_not rfl) (all_not rfl) (all_in rfl) rfl rfl rfl rfl (by rfl) (ei_seq (ev_var (i := 5) (nmem_of rfl) rfl (Or.inl rfl))) (blkOk_by (by rfl)) (fun _ _ _ _ _ => (eg_nm (i := 7) (nmem_of rfl) (nmem_of rfl) sc__law_near_rows.nd rfl (Or.inl rfl))) (fun _ _ _ _ _ => (ev_bin od_add (ev_bin od_add (ev_slice (ev_var (i := 2) (nmem_of rfl) rfl (Or.inr (Or.inl rfl))) ep_none (ep_some (ev_var (i := 3) (nmem_of rfl) rfl (Or.inr (Or.inl rfl))))) (ev_tup (ea_cons (ev_var (i := 7) (nmem_of rfl) rfl (Or.inl rfl)) ea_nil))) (ev_slice (ev_var (i := 2) (nmem_of rfl) rfl (Or.inr (Or.inl rfl))) (ep_some (ev_var (i := 3) (nmem_of rfl) rfl (Or.inr (Or.inl rfl)))) ep_none)))) (nmem_of rfl) (nmem_of rfl))
  (eb_cons (es_ret (ev_bin od_add (ev_var (i := 6) (nmem_of rfl) rfl (Or.inl rfl)) (ev_f (ef_lst (ea_cons ev_non (ea_cons (ev_tup ea_nil) (ea_cons (ev_f (ef_ty cf_lst rfl g.b_list (by decide +kernel) (ea_cons (ev_var (i := 2) (nmem_of rfl) rfl (Or.inr (Or.inl rfl))) ea_nil))) (ea_cons (ev_rev (ev_var (i := 2) (nmem_of rfl) rfl (Or.inr (Or.inl rfl)))) (ea_cons (ev_bin od_mul (ev_tup (ea_cons (ev_var (i := 4) (nmem_of rfl) rfl (Or.inl rfl)) ea_nil)) ev_int) (ea_cons (ev_bin od_mul (ev_tup (ea_cons (ev_var (i := 4) (nmem_of rfl) rfl (Or.inl rfl)) ea_nil)) ev_int) (ea_cons (ev_var (i := 4) (nmem_of rfl) rfl (Or.inl rfl)) ea_nil)))))))))))
  eb_nil))))
/-! _law_are_rows -/
abbrev N__law_are_rows : List Str := ["pack", "value", "row", "turn"]
abbrev ps__law_are_rows : List Str := ["pack", "value"]
theorem sc__law_are_rows : FnScope N__law_are_rows ps__law_are_rows (defScope (top 48)) := ⟨rfl, rfl, rfl, by decide +kernel, rfl, by decide +kernel, by decide +kernel⟩
def B__law_are_rows : SS :=
  (bCons (sIf (tOr (tNot (tTru (eIsi 3 (eVar 1)))) (tOr (tB (eBin dGT (eBlt bLen (aCons (eVar 1) aNil)) (eC (.int 40)))) (tB (eBin dNe (eF (fLc [2] (iSeq (eVar 1)) (gNm 2) (tOr (tNot (tTru (eIsi 3 (eVar 2)))) (tB (eBin dNe (eBlt bLen (aCons (eVar 2) aNil)) (eBlt bLen (aCons (eVar 0) aNil))))) (eVar 2))) (eF (fLst aNil)))))) (bCons (sRet (eC (.bl false))) bNil) bNil) (bCons (sFor (iSeq (eVar 1)) (gNm 2) (bCons (sIf (tB (eBin dNe (eF (fLc [3] (iSeq (eVar 2)) (gNm 3) (tOr (tB (eBin dNe (eCall m__law_sort (aCons (eVar 3) aNil)) (eC (.int 2)))) (tB (eBin (dIn not) (eVar 3) (eTup (aCons (eC (.int 1)) (aCons (eUn dNeg (eC (.int 1))) aNil)))))) (eVar 3))) (eF (fLst aNil)))) (bCons (sRet (eC (.bl false))) bNil) bNil) bNil)) (bCons (sRet (eC (.bl true))) bNil)))
def m__law_are_rows : FS := ⟨ps__law_are_rows.length, [], runB N__law_are_rows.length ps__law_are_rows.length [] B__law_are_rows⟩
@[simp] theorem np__law_are_rows : m__law_are_rows.np = 2 := nr rfl
theorem me__law_are_rows (ds : List D) : m__law_are_rows.m ds = runB 4 2 [] B__law_are_rows ds := nr rfl
theorem c__law_are_rows (g : G K mg) : CalF P w K mg base (S0 K) 2 "_law_are_rows" m__law_are_rows := by
  obtain ⟨fd, F⟩ := g.f__law_are_rows
  refine cal_of (fn_ev (ow := []) (bor := []) (B := B__law_are_rows) (fun_of F) sc__law_are_rows (all_in rfl) (hbl_of rfl) (ho_of rfl) fun cdv A outer s H E hr tk => ?_) g.g__law_are_rows F.kp (F.bindsN fun _ _ _ _ _ _ us hl => match us, hl with | [_, _], _ => rfl)
  exact (eb_cons (es_if (EvW.t (ew_or (et_not (et_truth (ev_isi 3 (by decide) rfl g.b_isinstance rfl g.b_tuple (by decide +kernel) (ev_var (i := 1) (nmem_of rfl) rfl (Or.inl rfl))) (fun _ => rfl))) (ew_or (et_cmp (od_GT (hu64 hr)) (ev_blt cd_len rfl g.b_len (by decide +kernel) (ea_cons (ev_var (i := 1) (nmem_of rfl) rfl (Or.inl rfl)) ea_nil)) ev_int rfl) (ew_or1 (et_cmp (od_ne (hu64 hr)) (ev_f (ef_lcIf (own := [("row", 2)]) rfl sc__law_are_rows.nd (all_not rfl) (all_not rfl) (all_in rfl) (ei_seq (ev_var (i := 1) (nmem_of rfl) rfl (Or.inl rfl))) (blkOk_by (by rfl)) (fun _ _ _ _ _ => (eg_nm (i := 2) (nmem_of rfl) (nmem_of rfl) sc__law_are_rows.nd rfl (Or.inl rfl))) (fun _ _ _ _ _ => (EvW.t (ew_or (et_not (et_truth (ev_isi 3 (by decide) rfl g.b_isinstance rfl g.b_tuple (by decide +kernel) (ev_var (i := 2) (nmem_of rfl) rfl (Or.inl rfl))) (fun _ => rfl))) (ew_or1 (et_cmp (od_ne (hu64 hr)) (ev_blt cd_len rfl g.b_len (by decide +kernel) (ea_cons (ev_var (i := 2) (nmem_of rfl) rfl (Or.inl rfl)) ea_nil)) (ev_blt cd_len rfl g.b_len (by decide +kernel) (ea_cons (ev_var (i := 0) (nmem_of rfl) rfl (Or.inr (Or.inl rfl))) ea_nil)) rfl))))) (fun _ _ _ _ _ => (ev_var (i := 2) (nmem_of rfl) rfl (Or.inl rfl))))) (ev_f (ef_lst ea_nil)) rfl))))) (eb_cons (es_ret ev_bl)
  eb_nil) eb_nil)
  (eb_cons (es_for (passes_of rfl) rfl (ei_seq (ev_var (i := 1) (nmem_of rfl) rfl (Or.inl rfl))) (eg_nm (i := 2) (nmem_of rfl) (nmem_of rfl) sc__law_are_rows.nd rfl (Or.inl rfl)) (eb_cons (es_if (et_cmp (od_ne (hu64 hr)) (ev_f (ef_lcIf (own := [("turn", 3)]) rfl sc__law_are_rows.nd (all_not rfl) (all_not rfl) (all_in rfl) (ei_seq (ev_var (i := 2) (nmem_of rfl) rfl (Or.inl rfl))) (blkOk_by (by rfl)) (fun _ _ _ _ _ => (eg_nm (i := 3) (nmem_of rfl) (nmem_of rfl) sc__law_are_rows.nd rfl (Or.inl rfl))) (fun _ _ _ _ _ => (EvW.t (ew_or (et_cmp (od_ne (hu64 hr)) (ev_call takes0 (c__law_sort g) same0 rfl hr (by decide) rfl (ea_cons (ev_var (i := 3) (nmem_of rfl) rfl (Or.inl rfl)) ea_nil)) ev_int rfl) (ew_or1 (et_cmp (od_notIn (hu65 hr)) (ev_var (i := 3) (nmem_of rfl) rfl (Or.inl rfl)) (ev_tup (ea_cons ev_int (ea_cons (ev_un ud_neg ev_int) ea_nil))) rfl))))) (fun _ _ _ _ _ => (ev_var (i := 3) (nmem_of rfl) rfl (Or.inl rfl))))) (ev_f (ef_lst ea_nil)) rfl) (eb_cons (es_ret ev_bl)
  eb_nil) eb_nil)
  eb_nil))
  (eb_cons (es_ret ev_bl)
  eb_nil)))
/-! _law_float -/
abbrev N__law_float : List Str := ["holes", "best", "at", "many", "far"]
abbrev ps__law_float : List Str := ["holes"]
theorem sc__law_float : FnScope N__law_float ps__law_float (defScope (top 51)) := ⟨rfl, rfl, rfl, by decide +kernel, rfl, by decide +kernel, by decide +kernel⟩
def B__law_float : SS :=
  (bCons (sSet 1 (eC (.int 0))) (bCons (sFor (iRng rng1 (aCons (eBlt bLen (aCons (eVar 0) aNil)) aNil)) (gNm 2) (bCons (sSet 3 (eBlt bLen (aCons (eF (fLc [4] (iRng rng2 (aCons (eVar 2) (aCons (eBlt bLen (aCons (eVar 0) aNil)) aNil))) (gNm 4) (tB (eBin dEq (eSl (eVar 0) (pSome (eVar 2)) (pSome (eBin dAdd (eVar 4) (eC (.int 1))))) (eBin dMul (eF (fLst (aCons (eBin dIx (eVar 0) (eVar 2)) aNil))) (eBin dSub (eBin dAdd (eVar 4) (eC (.int 1))) (eVar 2))))) (eC (.int 1)))) aNil))) (bCons (sSet 1 (eBlt bMax2 (aCons (eVar 1) (aCons (eVar 3) aNil)))) bNil))) (bCons (sRet (eVar 1)) bNil)))
def m__law_float : FS := ⟨ps__law_float.length, [], runB N__law_float.length ps__law_float.length [] B__law_float⟩
@[simp] theorem np__law_float : m__law_float.np = 1 := nr rfl
theorem me__law_float (ds : List D) : m__law_float.m ds = runB 5 1 [] B__law_float ds := nr rfl
theorem c__law_float (g : G K mg) : CalF P w K mg base (S0 K) 1 "_law_float" m__law_float := by
  obtain ⟨fd, F⟩ := g.f__law_float
  refine cal_of (fn_ev (ow := []) (bor := []) (B := B__law_float) (fun_of F) sc__law_float (all_in rfl) (hbl_of rfl) (ho_of rfl) fun cdv A outer s H E hr tk => ?_) g.g__law_float F.kp (F.bindsN fun _ _ _ _ _ _ us hl => match us, hl with | [_], _ => rfl)
  exact (eb_cons (es_set (i := 1) (nmem_of rfl) (nmem_of rfl) sc__law_float.nd rfl (Or.inl rfl) ev_int)
  (eb_cons (es_for (passes_of rfl) rfl (ei_range1 rfl g.b_range (ea_cons (ev_blt cd_len rfl g.b_len (by decide +kernel) (ea_cons (ev_var (i := 0) (nmem_of rfl) rfl (Or.inr (Or.inl rfl))) ea_nil)) ea_nil)) (eg_nm (i := 2) (nmem_of rfl) (nmem_of rfl) sc__law_float.nd rfl (Or.inr rfl)) (eb_cons (es_set (i := 3) (nmem_of rfl) (nmem_of rfl) sc__law_float.nd rfl (Or.inl rfl) (ev_blt cd_len rfl g.b_len (by decide +kernel) (ea_cons (ev_f (ef_lcIf (own := [("far", 4)]) rfl sc__law_float.nd (all_not rfl) (all_not rfl) (all_in rfl) (ei_range2 rfl g.b_range (ea_cons (ev_var (i := 2) (nmem_of rfl) rfl (Or.inr (Or.inl rfl))) (ea_cons (ev_blt cd_len rfl g.b_len (by decide +kernel) (ea_cons (ev_var (i := 0) (nmem_of rfl) rfl (Or.inr (Or.inl rfl))) ea_nil)) ea_nil))) (blkOk_by (by rfl)) (fun _ _ _ _ _ => (eg_nm (i := 4) (nmem_of rfl) (nmem_of rfl) sc__law_float.nd rfl (Or.inl rfl))) (fun _ _ _ _ _ => (et_cmp (od_eq (hu64 hr)) (ev_slice (ev_var (i := 0) (nmem_of rfl) rfl (Or.inr (Or.inl rfl))) (ep_some (ev_var (i := 2) (nmem_of rfl) rfl (Or.inr (Or.inl rfl)))) (ep_some (ev_bin od_add (ev_var (i := 4) (nmem_of rfl) rfl (Or.inl rfl)) ev_int))) (ev_bin od_mul (ev_f (ef_lst (ea_cons (ev_ix (fun _ _ => rfl) ix_all (ev_var (i := 0) (nmem_of rfl) rfl (Or.inr (Or.inl rfl))) (ev_var (i := 2) (nmem_of rfl) rfl (Or.inr (Or.inl rfl)))) ea_nil))) (ev_bin od_sub (ev_bin od_add (ev_var (i := 4) (nmem_of rfl) rfl (Or.inl rfl)) ev_int) (ev_var (i := 2) (nmem_of rfl) rfl (Or.inr (Or.inl rfl))))) rfl)) (fun _ _ _ _ _ => ev_int))) ea_nil)))
  (eb_cons (es_set (i := 1) (nmem_of rfl) (nmem_of rfl) sc__law_float.nd rfl (Or.inl rfl) (ev_blt (cd_max2 rfl) rfl g.b_max (by decide +kernel) (ea_cons (ev_var (i := 1) (nmem_of rfl) rfl (Or.inl rfl)) (ea_cons (ev_var (i := 3) (nmem_of rfl) rfl (Or.inl rfl)) ea_nil))))
  eb_nil)))
  (eb_cons (es_ret (ev_var (i := 1) (nmem_of rfl) rfl (Or.inl rfl)))
  eb_nil)))
/-! _law_right -/
abbrev N__law_right : List Str := ["cup", "pack", "rows", "columns", "at", "tablet", "turns", "holes", "top", "changes", "told", "picture", "leans", "twists", "value", "one", "row", "turn", "hole", "other", "column"]
abbrev ps__law_right : List Str := ["cup", "pack"]
theorem sc__law_right : FnScope N__law_right ps__law_right (defScope (top 52)) := ⟨rfl, rfl, rfl, by decide +kernel, rfl, by decide +kernel, by decide +kernel⟩
def B__law_right : SS :=
  (bCons (sSet 2 (eBlt bTup (aCons (eF (fLc [16] (iRng rng1 (aCons (eCallC m__law_roll (aCons (ePlc 0) (aCons (eC (.int 14)) aNil))) aNil)) (gNm 16) cYes (eBlt bTup (aCons (eF (fLc [5] (iSeq (eVar 1)) (gNm 5) cYes (eCallC m__law_some (aCons (ePlc 0) (aCons (eF (fLst (aCons (eC (.int 1)) (aCons (eC (.int 1)) (aCons (eUn dNeg (eC (.int 1))) aNil))))) aNil))))) aNil)))) aNil))) (bCons (sSetF 3 (fLst aNil)) (bCons (sFor (iRng enum1 (aCons (eVar 1) aNil)) (gTupD 2 (gsCons (gNm 4) (gsCons (gNm 5) gsNil))) (bCons (sSet 6 (eBlt bTup (aCons (eF (fLc [16] (iSeq (eVar 2)) (gNm 16) cYes (eBin dIx (eVar 16) (eVar 4)))) aNil))) (bCons (sAsgN (gTupD 2 (gsCons (gNm 7) (gsCons (gNm 8) gsNil))) (eCall m__law_holes (aCons (eVar 6) aNil))) (bCons (sExpr (eApp (ePlc 3) (eF (fLc [18] (iSeq (eVar 7)) (gNm 18) cYes (eBin dIx (eBin dIx (eVar 5) (eC (.int 1))) (eVar 18)))))) (bCons (sSet 9 (eBlt bLen (aCons (eF (fLc [15, 19] (iRng zip2 (aCons (eVar 6) (aCons (eSl (eVar 6) (pSome (eC (.int 1))) pNone) aNil))) (gTupD 2 (gsCons (gNm 15) (gsCons (gNm 19) gsNil))) (tB (eBin dEq (eBin dAdd (eVar 15) (eVar 19)) (eC (.int 0)))) (eC (.int 1)))) aNil))) (bCons (sSet 10 (eF (fLst (aCons (eCall m_column_of (aCons (eVar 5) (aCons (eVar 6) aNil))) (aCons (eCall m_top_of (aCons (eVar 6) aNil)) (aCons (eCall m_twist_of (aCons (eVar 6) aNil)) (aCons (eCall m_changes_of (aCons (eVar 6) aNil)) (aCons (eCall m_float_of (aCons (eVar 6) aNil)) aNil)))))))) (bCons (sIf (tNot (tTru (eCall m__law_like (aCons (eVar 10) (aCons (eF (fLst (aCons (eBlt bTup (aCons (eBin dIx (ePlc 3) (eUn dNeg (eC (.int 1)))) aNil)) (aCons (eVar 8) (aCons (eBlt bSumA (aCons (eVar 6) aNil)) (aCons (eVar 9) (aCons (eCall m__law_float (aCons (eVar 7) aNil)) aNil))))))) aNil))))) (bCons (sRet (eC (.bl false))) bNil) bNil) bNil))))))) (bFrz 3 (bCons (sSet 11 (eBlt bTup (aCons (eF (fLc [4] (iRng rng1 (aCons (eBlt bLen (aCons (eVar 2) aNil)) aNil)) (gNm 4) cYes (eBlt bTup (aCons (eF (fLc [20] (iSeq (eVar 3)) (gNm 20) cYes (eBin dIx (eVar 20) (eVar 4)))) aNil)))) aNil))) (bCons (sSet 12 (eBlt bTup (aCons (eF (fLc [16] (iSeq (eVar 2)) (gNm 16) cYes (eJoin (eC (.str [])) (eF (fLc [5, 17] (iRng zip2 (aCons (eVar 1) (aCons (eVar 16) aNil))) (gTupD 2 (gsCons (gNm 5) (gsCons (gNm 17) gsNil))) cYes (eIf (tB (eBin dEq (eBin dIx (eVar 5) (eC (.int 0))) (eIf (tB (eBin dEq (eVar 17) (eC (.int 1)))) (eC (.str [115])) (eC (.str [122]))))) (eC (.str [47])) (eC (.str [45])))))))) aNil))) (bCons (sSet 13 (eBlt bTup (aCons (eF (fLc [4] (iRng rng1 (aCons (eBlt bLen (aCons (eVar 1) aNil)) aNil)) (gNm 4) cYes (eBlt bSumA (aCons (eF (fLc [16] (iSeq (eVar 2)) (gNm 16) cYes (eBin dIx (eVar 16) (eVar 4)))) aNil)))) aNil))) (bCons (sIf (tNot (tTru (eCall m__law_like (aCons (eF (fLst (aCons (eCall m_shown_picture (aCons (eVar 1) (aCons (eVar 2) aNil))) (aCons (eCall m_leans_of (aCons (eVar 1) (aCons (eVar 2) aNil))) (aCons (eCall m_twists_of (aCons (eVar 1) (aCons (eVar 2) aNil))) aNil))))) (aCons (eF (fLst (aCons (eVar 11) (aCons (eVar 12) (aCons (eVar 13) aNil))))) aNil))))) (bCons (sRet (eC (.bl false))) bNil) bNil) (bCons (sFor (iSeq (eBin dAdd (eF (fLst (aCons (eVar 1) aNil))) (eF (fLc [17] (iRng rng1 (aCons (eC (.int 8)) aNil)) (gNm 17) cYes (eCallC m__law_some (aCons (ePlc 0) (aCons (eCallC m__law_near (aCons (ePlc 0) (aCons (eVar 1) aNil))) aNil))))))) (gNm 14) (bCons (sIf (tNot (tTru (eCall m__law_like (aCons (eCall m_is_pack (aCons (eVar 14) aNil)) (aCons (eCall m__law_is_pack (aCons (eVar 14) aNil)) aNil))))) (bCons (sRet (eC (.bl false))) bNil) bNil) (bCons (sSet 15 (eIf (tAnd (tTru (eIsi 3 (eVar 14))) (tB (eBin dNe (eVar 14) (eTup aNil)))) (eBin dIx (eVar 14) (eC (.int 0))) (eVar 14))) (bCons (sIf (tNot (tTru (eCall m__law_like (aCons (eCall m_is_tablet (aCons (eVar 15) aNil)) (aCons (eCall m__law_is_tablet (aCons (eVar 15) aNil)) aNil))))) (bCons (sRet (eC (.bl false))) bNil) bNil) bNil)))) (bCons (sFor (iSeq (eBin dAdd (eF (fLst (aCons (eVar 2) aNil))) (eF (fLc [17] (iRng rng1 (aCons (eC (.int 6)) aNil)) (gNm 17) cYes (eCallC m__law_some (aCons (ePlc 0) (aCons (eCallC m__law_near_rows (aCons (ePlc 0) (aCons (eVar 1) (aCons (eVar 2) aNil)))) aNil))))))) (gNm 14) (bCons (sIf (tNot (tTru (eCall m__law_like (aCons (eCall m_are_rows (aCons (eVar 1) (aCons (eVar 14) aNil))) (aCons (eCall m__law_are_rows (aCons (eVar 1) (aCons (eVar 14) aNil))) aNil))))) (bCons (sRet (eC (.bl false))) bNil) bNil) bNil)) (bCons (sRet (eC (.bl true))) bNil)))))))))))
def m__law_right : FS := ⟨ps__law_right.length, [0], runB N__law_right.length ps__law_right.length [0] B__law_right⟩
@[simp] theorem np__law_right : m__law_right.np = 2 := nr rfl
theorem me__law_right (ds : List D) : m__law_right.m ds = runB 21 2 [0] B__law_right ds := nr rfl
theorem c__law_right (g : G K mg) : CalF P w K mg base (S0 K) 10 "_law_right" m__law_right := by
  obtain ⟨fd, F⟩ := g.f__law_right
  refine cal_of (fn_ev (ow := [0, 3]) (bor := [0]) (B := B__law_right) (fun_of F) sc__law_right (all_in rfl) (hbl_of rfl) (ho_of rfl) fun cdv A outer s H E hr tk => ?_) g.g__law_right F.kp (F.bindsN fun _ _ _ _ _ _ us hl => match us, hl with | [_, _], _ => rfl)
  exact (eb_cons (es_set (i := 2) (nmem_of rfl) (nmem_of rfl) sc__law_right.nd rfl (Or.inr rfl) (ev_ty cd_tup rfl g.b_tuple (by decide +kernel) (ea_cons (ev_f (ef_lc (own := [("row", 16)]) rfl sc__law_right.nd (all_not rfl) (all_not rfl) (all_in rfl) (ei_range1 rfl g.b_range (ea_cons (ev_callC tk (c__law_roll g) same0 rfl hr (by decide) rfl (ea_cons (ev_plc (i := 0) (mem_of rfl) rfl (Or.inr (Or.inl rfl))) (ea_cons ev_int ea_nil))) ea_nil)) (blkOk_by (by rfl)) (fun _ _ _ _ _ => (eg_nm (i := 16) (nmem_of rfl) (nmem_of rfl) sc__law_right.nd rfl (Or.inl rfl))) (fun _ _ _ _ _ => (ev_ty cd_tup rfl g.b_tuple (by decide +kernel) (ea_cons (ev_f (ef_lc (own := [("tablet", 5)]) rfl sc__law_right.nd (all_not rfl) (all_not rfl) (all_in rfl) (ei_seq (ev_var (i := 1) (nmem_of rfl) rfl (Or.inr (Or.inl rfl)))) (blkOk_by (by rfl)) (fun _ _ _ _ _ => (eg_nm (i := 5) (nmem_of rfl) (nmem_of rfl) sc__law_right.nd rfl (Or.inl rfl))) (fun _ _ _ _ _ => (ev_callC takes0 (c__law_some g) same0 rfl hr (by decide) rfl (ea_cons (ev_plc (i := 0) (mem_of rfl) rfl (Or.inr (Or.inl rfl))) (ea_cons (ev_f (ef_lst (ea_cons ev_int (ea_cons ev_int (ea_cons (ev_un ud_neg ev_int) ea_nil))))) ea_nil)))))) ea_nil))))) ea_nil)))
  (eb_cons (es_setF (i := 3) (mem_of rfl) (nmem_of rfl) sc__law_right.nd rfl (Or.inr rfl) (ef_lst ea_nil))
  (eb_cons (es_for (passes_of rfl) rfl (ei_enum rfl g.b_enumerate (ea_cons (ev_var (i := 1) (nmem_of rfl) rfl (Or.inr (Or.inl rfl))) ea_nil)) (eg_tup rfl (egs_cons (eg_nm (i := 4) (nmem_of rfl) (nmem_of rfl) sc__law_right.nd rfl (Or.inr rfl)) (egs_cons (eg_nm (i := 5) (nmem_of rfl) (nmem_of rfl) sc__law_right.nd rfl (Or.inr rfl)) egs_nil))) (eb_cons (es_set (i := 6) (nmem_of rfl) (nmem_of rfl) sc__law_right.nd rfl (Or.inl rfl) (ev_ty cd_tup rfl g.b_tuple (by decide +kernel) (ea_cons (ev_f (ef_lc (own := [("row", 16)]) rfl sc__law_right.nd (all_not rfl) (all_not rfl) (all_in rfl) (ei_seq (ev_var (i := 2) (nmem_of rfl) rfl (Or.inr (Or.inl rfl)))) (blkOk_by (by rfl)) (fun _ _ _ _ _ => (eg_nm (i := 16) (nmem_of rfl) (nmem_of rfl) sc__law_right.nd rfl (Or.inl rfl))) (fun _ _ _ _ _ => (ev_ix (fun _ _ => rfl) ix_all (ev_var (i := 16) (nmem_of rfl) rfl (Or.inl rfl)) (ev_var (i := 4) (nmem_of rfl) rfl (Or.inr (Or.inl rfl))))))) ea_nil)))
  (eb_cons (es_asg (ev_call tk (c__law_holes g) same0 rfl hr (by decide) rfl (ea_cons (ev_var (i := 6) (nmem_of rfl) rfl (Or.inl rfl)) ea_nil)) (eg_tup rfl (egs_cons (eg_nm (i := 7) (nmem_of rfl) (nmem_of rfl) sc__law_right.nd rfl (Or.inl rfl)) (egs_cons (eg_nm (i := 8) (nmem_of rfl) (nmem_of rfl) sc__law_right.nd rfl (Or.inl rfl)) egs_nil))))
  (eb_cons (es_expr (ev_app (ev_plc (i := 3) (mem_of rfl) rfl (Or.inr (Or.inl rfl))) (ev_f (ef_lc (own := [("hole", 18)]) rfl sc__law_right.nd (all_not rfl) (all_not rfl) (all_in rfl) (ei_seq (ev_var (i := 7) (nmem_of rfl) rfl (Or.inl rfl))) (blkOk_by (by rfl)) (fun _ _ _ _ _ => (eg_nm (i := 18) (nmem_of rfl) (nmem_of rfl) sc__law_right.nd rfl (Or.inl rfl))) (fun _ _ _ _ _ => (ev_ix (fun _ _ => rfl) ix_all (ev_ix (fun _ _ => rfl) ix_all (ev_var (i := 5) (nmem_of rfl) rfl (Or.inr (Or.inl rfl))) ev_int) (ev_var (i := 18) (nmem_of rfl) rfl (Or.inl rfl))))))))
  (eb_cons (es_set (i := 9) (nmem_of rfl) (nmem_of rfl) sc__law_right.nd rfl (Or.inl rfl) (ev_blt cd_len rfl g.b_len (by decide +kernel) (ea_cons (ev_f (ef_lcIf (own := [("one", 15), ("other", 19)]) rfl sc__law_right.nd (all_not rfl) (all_not rfl) (all_in rfl) (ei_zip rfl g.b_zip (ea_cons (ev_var (i := 6) (nmem_of rfl) rfl (Or.inl rfl)) (ea_cons (ev_slice (ev_var (i := 6) (nmem_of rfl) rfl (Or.inl rfl)) (ep_some ev_int) ep_none) ea_nil))) (blkOk_by (by rfl)) (fun _ _ _ _ _ => (eg_tup rfl (egs_cons (eg_nm (i := 15) (nmem_of rfl) (nmem_of rfl) sc__law_right.nd rfl (Or.inl rfl)) (egs_cons (eg_nm (i := 19) (nmem_of rfl) (nmem_of rfl) sc__law_right.nd rfl (Or.inl rfl)) egs_nil)))) (fun _ _ _ _ _ => (et_cmp (od_eq (hu64 hr)) (ev_bin od_add (ev_var (i := 15) (nmem_of rfl) rfl (Or.inl rfl)) (ev_var (i := 19) (nmem_of rfl) rfl (Or.inl rfl))) ev_int rfl)) (fun _ _ _ _ _ => ev_int))) ea_nil)))
  (eb_cons (es_set (i := 10) (nmem_of rfl) (nmem_of rfl) sc__law_right.nd rfl (Or.inl rfl) (ev_f (ef_lst (ea_cons (ev_call tk (c_column_of g) same0 rfl hr (by decide) rfl (ea_cons (ev_var (i := 5) (nmem_of rfl) rfl (Or.inr (Or.inl rfl))) (ea_cons (ev_var (i := 6) (nmem_of rfl) rfl (Or.inl rfl)) ea_nil))) (ea_cons (ev_call tk (c_top_of g) same0 rfl hr (by decide) rfl (ea_cons (ev_var (i := 6) (nmem_of rfl) rfl (Or.inl rfl)) ea_nil)) (ea_cons (ev_call tk (c_twist_of g) same0 rfl hr (by decide) rfl (ea_cons (ev_var (i := 6) (nmem_of rfl) rfl (Or.inl rfl)) ea_nil)) (ea_cons (ev_call tk (c_changes_of g) same0 rfl hr (by decide) rfl (ea_cons (ev_var (i := 6) (nmem_of rfl) rfl (Or.inl rfl)) ea_nil)) (ea_cons (ev_call tk (c_float_of g) same0 rfl hr (by decide) rfl (ea_cons (ev_var (i := 6) (nmem_of rfl) rfl (Or.inl rfl)) ea_nil)) ea_nil))))))))
  (eb_cons (es_if (et_not (et_truth (ev_call tk (c__law_like g) same0 rfl hr (by decide) rfl (ea_cons (ev_var (i := 10) (nmem_of rfl) rfl (Or.inl rfl)) (ea_cons (ev_f (ef_lst (ea_cons (ev_ty cd_tup rfl g.b_tuple (by decide +kernel) (ea_cons (ev_ix (fun _ _ => rfl) ix_all (ev_plc (i := 3) (mem_of rfl) rfl (Or.inr (Or.inl rfl))) (ev_un ud_neg ev_int)) ea_nil)) (ea_cons (ev_var (i := 8) (nmem_of rfl) rfl (Or.inl rfl)) (ea_cons (ev_blt (cd_sumA rfl) rfl g.b_sum (by decide +kernel) (ea_cons (ev_var (i := 6) (nmem_of rfl) rfl (Or.inl rfl)) ea_nil)) (ea_cons (ev_var (i := 9) (nmem_of rfl) rfl (Or.inl rfl)) (ea_cons (ev_call tk (c__law_float g) same0 rfl hr (by decide) rfl (ea_cons (ev_var (i := 7) (nmem_of rfl) rfl (Or.inl rfl)) ea_nil)) ea_nil))))))) ea_nil))) (fun _ => rfl))) (eb_cons (es_ret ev_bl)
  eb_nil) eb_nil)
  eb_nil)))))))
  (eb_frz (i := 3) (ow' := [0]) (frz_of rfl) (nmem_of rfl) (nmem_of rfl)
  (eb_cons (es_set (i := 11) (nmem_of rfl) (nmem_of rfl) sc__law_right.nd rfl (Or.inl rfl) (ev_ty cd_tup rfl g.b_tuple (by decide +kernel) (ea_cons (ev_f (ef_lc (own := [("at", 4)]) rfl sc__law_right.nd (all_not rfl) (all_not rfl) (all_in rfl) (ei_range1 rfl g.b_range (ea_cons (ev_blt cd_len rfl g.b_len (by decide +kernel) (ea_cons (ev_var (i := 2) (nmem_of rfl) rfl (Or.inr (Or.inl rfl))) ea_nil)) ea_nil)) (blkOk_by (by rfl)) (fun _ _ _ _ _ => (eg_nm (i := 4) (nmem_of rfl) (nmem_of rfl) sc__law_right.nd rfl (Or.inr rfl))) (fun _ _ _ _ _ => (ev_ty cd_tup rfl g.b_tuple (by decide +kernel) (ea_cons (ev_f (ef_lc (own := [("column", 20)]) rfl sc__law_right.nd (all_not rfl) (all_not rfl) (all_in rfl) (ei_seq (ev_var (i := 3) (nmem_of rfl) rfl (Or.inr (Or.inl rfl)))) (blkOk_by (by rfl)) (fun _ _ _ _ _ => (eg_nm (i := 20) (nmem_of rfl) (nmem_of rfl) sc__law_right.nd rfl (Or.inl rfl))) (fun _ _ _ _ _ => (ev_ix (fun _ _ => rfl) ix_all (ev_var (i := 20) (nmem_of rfl) rfl (Or.inl rfl)) (ev_var (i := 4) (nmem_of rfl) rfl (Or.inr (Or.inl rfl))))))) ea_nil))))) ea_nil)))
  (eb_cons (es_set (i := 12) (nmem_of rfl) (nmem_of rfl) sc__law_right.nd rfl (Or.inl rfl) (ev_ty cd_tup rfl g.b_tuple (by decide +kernel) (ea_cons (ev_f (ef_lc (own := [("row", 16)]) rfl sc__law_right.nd (all_not rfl) (all_not rfl) (all_in rfl) (ei_seq (ev_var (i := 2) (nmem_of rfl) rfl (Or.inr (Or.inl rfl)))) (blkOk_by (by rfl)) (fun _ _ _ _ _ => (eg_nm (i := 16) (nmem_of rfl) (nmem_of rfl) sc__law_right.nd rfl (Or.inl rfl))) (fun _ _ _ _ _ => (ev_join (ev_str []) (ev_f (ef_lc (own := [("tablet", 5), ("turn", 17)]) rfl sc__law_right.nd (all_not rfl) (all_not rfl) (all_in rfl) (ei_zip rfl g.b_zip (ea_cons (ev_var (i := 1) (nmem_of rfl) rfl (Or.inr (Or.inl rfl))) (ea_cons (ev_var (i := 16) (nmem_of rfl) rfl (Or.inl rfl)) ea_nil))) (blkOk_by (by rfl)) (fun _ _ _ _ _ => (eg_tup rfl (egs_cons (eg_nm (i := 5) (nmem_of rfl) (nmem_of rfl) sc__law_right.nd rfl (Or.inl rfl)) (egs_cons (eg_nm (i := 17) (nmem_of rfl) (nmem_of rfl) sc__law_right.nd rfl (Or.inl rfl)) egs_nil)))) (fun _ _ _ _ _ => (ev_if (et_cmp (od_eq (hu64 hr)) (ev_ix (fun _ _ => rfl) ix_all (ev_var (i := 5) (nmem_of rfl) rfl (Or.inl rfl)) ev_int) (ev_if (et_cmp (od_eq (hu64 hr)) (ev_var (i := 17) (nmem_of rfl) rfl (Or.inl rfl)) ev_int rfl) (ev_str [115]) (ev_str [122])) rfl) (ev_str [47]) (ev_str [45]))))))))) ea_nil)))
  (eb_cons (es_set (i := 13) (nmem_of rfl) (nmem_of rfl) sc__law_right.nd rfl (Or.inl rfl) (ev_ty cd_tup rfl g.b_tuple (by decide +kernel) (ea_cons (ev_f (ef_lc (own := [("at", 4)]) rfl sc__law_right.nd (all_not rfl) (all_not rfl) (all_in rfl) (ei_range1 rfl g.b_range (ea_cons (ev_blt cd_len rfl g.b_len (by decide +kernel) (ea_cons (ev_var (i := 1) (nmem_of rfl) rfl (Or.inr (Or.inl rfl))) ea_nil)) ea_nil)) (blkOk_by (by rfl)) (fun _ _ _ _ _ => (eg_nm (i := 4) (nmem_of rfl) (nmem_of rfl) sc__law_right.nd rfl (Or.inr rfl))) (fun _ _ _ _ _ => (ev_blt (cd_sumA rfl) rfl g.b_sum (by decide +kernel) (ea_cons (ev_f (ef_lc (own := [("row", 16)]) rfl sc__law_right.nd (all_not rfl) (all_not rfl) (all_in rfl) (ei_seq (ev_var (i := 2) (nmem_of rfl) rfl (Or.inr (Or.inl rfl)))) (blkOk_by (by rfl)) (fun _ _ _ _ _ => (eg_nm (i := 16) (nmem_of rfl) (nmem_of rfl) sc__law_right.nd rfl (Or.inl rfl))) (fun _ _ _ _ _ => (ev_ix (fun _ _ => rfl) ix_all (ev_var (i := 16) (nmem_of rfl) rfl (Or.inl rfl)) (ev_var (i := 4) (nmem_of rfl) rfl (Or.inr (Or.inl rfl))))))) ea_nil))))) ea_nil)))
  (eb_cons (es_if (et_not (et_truth (ev_call tk (c__law_like g) same0 rfl hr (by decide) rfl (ea_cons (ev_f (ef_lst (ea_cons (ev_call tk (c_shown_picture g) same0 rfl hr (by decide) rfl (ea_cons (ev_var (i := 1) (nmem_of rfl) rfl (Or.inr (Or.inl rfl))) (ea_cons (ev_var (i := 2) (nmem_of rfl) rfl (Or.inr (Or.inl rfl))) ea_nil))) (ea_cons (ev_call tk (c_leans_of g) same0 rfl hr (by decide) rfl (ea_cons (ev_var (i := 1) (nmem_of rfl) rfl (Or.inr (Or.inl rfl))) (ea_cons (ev_var (i := 2) (nmem_of rfl) rfl (Or.inr (Or.inl rfl))) ea_nil))) (ea_cons (ev_call tk (c_twists_of g) same0 rfl hr (by decide) rfl (ea_cons (ev_var (i := 1) (nmem_of rfl) rfl (Or.inr (Or.inl rfl))) (ea_cons (ev_var (i := 2) (nmem_of rfl) rfl (Or.inr (Or.inl rfl))) ea_nil))) ea_nil))))) (ea_cons (ev_f (ef_lst (ea_cons (ev_var (i := 11) (nmem_of rfl) rfl (Or.inl rfl)) (ea_cons (ev_var (i := 12) (nmem_of rfl) rfl (Or.inl rfl)) (ea_cons (ev_var (i := 13) (nmem_of rfl) rfl (Or.inl rfl)) ea_nil))))) ea_nil))) (fun _ => rfl))) (eb_cons (es_ret ev_bl)
  eb_nil) eb_nil)
  (eb_cons (es_for (passes_of rfl) rfl (ei_seq (ev_bin od_add (ev_f (ef_lst (ea_cons (ev_var (i := 1) (nmem_of rfl) rfl (Or.inr (Or.inl rfl))) ea_nil))) (ev_f (ef_lc (own := [("turn", 17)]) rfl sc__law_right.nd (all_not rfl) (all_not rfl) (all_in rfl) (ei_range1 rfl g.b_range (ea_cons ev_int ea_nil)) (blkOk_by (by rfl)) (fun _ _ _ _ _ => (eg_nm (i := 17) (nmem_of rfl) (nmem_of rfl) sc__law_right.nd rfl (Or.inl rfl))) (fun _ _ _ _ _ => (ev_callC takes0 (c__law_some g) same0 rfl hr (by decide) rfl (ea_cons (ev_plc (i := 0) (mem_of rfl) rfl (Or.inr (Or.inl rfl))) (ea_cons (ev_callC takes0 (c__law_near g) same0 rfl hr (by decide) rfl (ea_cons (ev_plc (i := 0) (mem_of rfl) rfl (Or.inr (Or.inl rfl))) (ea_cons (ev_var (i := 1) (nmem_of rfl) rfl (Or.inr (Or.inl rfl))) ea_nil))) ea_nil)))))))) (eg_nm (i := 14) (nmem_of rfl) (nmem_of rfl) sc__law_right.nd rfl (Or.inl rfl)) (eb_cons (es_if (et_not (et_truth (ev_call tk (c__law_like g) same0 rfl hr (by decide) rfl (ea_cons (ev_call tk (c_is_pack g) same0 rfl hr (by decide) rfl (ea_cons (ev_var (i := 14) (nmem_of rfl) rfl (Or.inl rfl)) ea_nil)) (ea_cons (ev_call tk (c__law_is_pack g) same0 rfl hr (by decide) rfl (ea_cons (ev_var (i := 14) (nmem_of rfl) rfl (Or.inl rfl)) ea_nil)) ea_nil))) (fun _ => rfl))) (eb_cons (es_ret ev_bl)
  eb_nil) eb_nil)
  (eb_cons (es_set (i := 15) (nmem_of rfl) (nmem_of rfl) sc__law_right.nd rfl (Or.inl rfl) (ev_if (EvW.t (ew_and (et_truth (ev_isi 3 (by decide) rfl g.b_isinstance rfl g.b_tuple (by decide +kernel) (ev_var (i := 14) (nmem_of rfl) rfl (Or.inl rfl))) (fun _ => rfl)) (ew_and1 (et_cmp (od_ne (hu64 hr)) (ev_var (i := 14) (nmem_of rfl) rfl (Or.inl rfl)) (ev_tup ea_nil) rfl)))) (ev_ix (fun _ _ => rfl) ix_all (ev_var (i := 14) (nmem_of rfl) rfl (Or.inl rfl)) ev_int) (ev_var (i := 14) (nmem_of rfl) rfl (Or.inl rfl))))
  (eb_cons (es_if (et_not (et_truth (ev_call tk (c__law_like g) same0 rfl hr (by decide) rfl (ea_cons (ev_call tk (c_is_tablet g) same0 rfl hr (by decide) rfl (ea_cons (ev_var (i := 15) (nmem_of rfl) rfl (Or.inl rfl)) ea_nil)) (ea_cons (ev_call tk (c__law_is_tablet g) same0 rfl hr (by decide) rfl (ea_cons (ev_var (i := 15) (nmem_of rfl) rfl (Or.inl rfl)) ea_nil)) ea_nil))) (fun _ => rfl))) (eb_cons (es_ret ev_bl)
  eb_nil) eb_nil)
  eb_nil))))
  (eb_cons (es_for (passes_of rfl) rfl (ei_seq (ev_bin od_add (ev_f (ef_lst (ea_cons (ev_var (i := 2) (nmem_of rfl) rfl (Or.inr (Or.inl rfl))) ea_nil))) (ev_f (ef_lc (own := [("turn", 17)]) rfl sc__law_right.nd (all_not rfl) (all_not rfl) (all_in rfl) (ei_range1 rfl g.b_range (ea_cons ev_int ea_nil)) (blkOk_by (by rfl)) (fun _ _ _ _ _ => (eg_nm (i := 17) (nmem_of rfl) (nmem_of rfl) sc__law_right.nd rfl (Or.inl rfl))) (fun _ _ _ _ _ => (ev_callC takes0 (c__law_some g) same0 rfl hr (by decide) rfl (ea_cons (ev_plc (i := 0) (mem_of rfl) rfl (Or.inr (Or.inl rfl))) (ea_cons (ev_callC takes0 (c__law_near_rows g) same0 rfl hr (by decide) rfl (ea_cons (ev_plc (i := 0) (mem_of rfl) rfl (Or.inr (Or.inl rfl))) (ea_cons (ev_var (i := 1) (nmem_of rfl) rfl (Or.inr (Or.inl rfl))) (ea_cons (ev_var (i := 2) (nmem_of rfl) rfl (Or.inr (Or.inl rfl))) ea_nil)))) ea_nil)))))))) (eg_nm (i := 14) (nmem_of rfl) (nmem_of rfl) sc__law_right.nd rfl (Or.inl rfl)) (eb_cons (es_if (et_not (et_truth (ev_call tk (c__law_like g) same0 rfl hr (by decide) rfl (ea_cons (ev_call tk (c_are_rows g) same0 rfl hr (by decide) rfl (ea_cons (ev_var (i := 1) (nmem_of rfl) rfl (Or.inr (Or.inl rfl))) (ea_cons (ev_var (i := 14) (nmem_of rfl) rfl (Or.inl rfl)) ea_nil))) (ea_cons (ev_call tk (c__law_are_rows g) same0 rfl hr (by decide) rfl (ea_cons (ev_var (i := 1) (nmem_of rfl) rfl (Or.inr (Or.inl rfl))) (ea_cons (ev_var (i := 14) (nmem_of rfl) rfl (Or.inl rfl)) ea_nil))) ea_nil))) (fun _ => rfl))) (eb_cons (es_ret ev_bl)
  eb_nil) eb_nil)
  eb_nil))
  (eb_cons (es_ret ev_bl)
  eb_nil)))))))))))
/-! _law_tablet -/
abbrev N__law_tablet : List Str := ["cup", "colours", "hole"]
abbrev ps__law_tablet : List Str := ["cup", "colours"]
theorem sc__law_tablet : FnScope N__law_tablet ps__law_tablet (defScope (top 43)) := ⟨rfl, rfl, rfl, by decide +kernel, rfl, by decide +kernel, by decide +kernel⟩
def B__law_tablet : SS :=
  (bCons (sRet (eTup (aCons (eCallC m__law_some (aCons (ePlc 0) (aCons (eF (fLst (aCons (eC (.str [115])) (aCons (eC (.str [122])) aNil)))) aNil))) (aCons (eBlt bTup (aCons (eF (fLc [2] (iRng rng1 (aCons (eC (.int 4)) aNil)) (gNm 2) cYes (eCallC m__law_some (aCons (ePlc 0) (aCons (eVar 1) aNil))))) aNil)) aNil)))) bNil)
def m__law_tablet : FS := ⟨ps__law_tablet.length, [0], runB N__law_tablet.length ps__law_tablet.length [0] B__law_tablet⟩
@[simp] theorem np__law_tablet : m__law_tablet.np = 2 := nr rfl
theorem me__law_tablet (ds : List D) : m__law_tablet.m ds = runB 3 2 [0] B__law_tablet ds := nr rfl
theorem c__law_tablet (g : G K mg) : CalF P w K mg base (S0 K) 3 "_law_tablet" m__law_tablet := by
  obtain ⟨fd, F⟩ := g.f__law_tablet
  refine cal_of (fn_ev (ow := [0]) (bor := [0]) (B := B__law_tablet) (fun_of F) sc__law_tablet (all_in rfl) (hbl_of rfl) (ho_of rfl) fun cdv A outer s H E hr tk => ?_) g.g__law_tablet F.kp (F.bindsN fun _ _ _ _ _ _ us hl => match us, hl with | [_, _], _ => rfl)
  exact (eb_cons (es_ret (ev_tup (ea_cons (ev_callC tk (c__law_some g) same0 rfl hr (by decide) rfl (ea_cons (ev_plc (i := 0) (mem_of rfl) rfl (Or.inr (Or.inl rfl))) (ea_cons (ev_f (ef_lst (ea_cons (ev_str [115]) (ea_cons (ev_str [122]) ea_nil)))) ea_nil))) (ea_cons (ev_ty cd_tup rfl g.b_tuple (by decide +kernel) (ea_cons (ev_f (ef_lc (own := [("hole", 2)]) rfl sc__law_tablet.nd (all_not rfl) (all_not rfl) (all_in rfl) (ei_range1 rfl g.b_range (ea_cons ev_int ea_nil)) (blkOk_by (by rfl)) (fun _ _ _ _ _ => (eg_nm (i := 2) (nmem_of rfl) (nmem_of rfl) sc__law_tablet.nd rfl (Or.inl rfl))) (fun _ _ _ _ _ => (ev_callC takes0 (c__law_some g) same0 rfl hr (by decide) rfl (ea_cons (ev_plc (i := 0) (mem_of rfl) rfl (Or.inr (Or.inl rfl))) (ea_cons (ev_var (i := 1) (nmem_of rfl) rfl (Or.inr (Or.inl rfl))) ea_nil)))))) ea_nil)) ea_nil))))
  eb_nil)
/-! law -/
abbrev N_law : List Str := ["script", "cup", "turn", "colours", "tablet"]
abbrev ps_law : List Str := ["script"]
theorem sc_law : FnScope N_law ps_law (defScope (top 55)) := ⟨rfl, rfl, rfl, by decide +kernel, rfl, by decide +kernel, by decide +kernel⟩
def B_law : SS :=
  (bCons (sIf (tNot (tTru (eCall0 m__law_written_right))) (bCons (sRet (eC (.bl false))) bNil) bNil) (bCons (sSetF 1 (fCall mf__law_cup (aCons (eVar 0) aNil))) (bCons (sFor (iRng rng1 (aCons (eC (.int 3)) aNil)) (gNm 2) (bCons (sSet 3 (eCallC m__law_names (aCons (ePlc 1) (aCons (eBin dAdd (eC (.int 1)) (eCallC m__law_roll (aCons (ePlc 1) (aCons (eC (.int 5)) aNil)))) aNil)))) (bCons (sIf (tNot (tTru (eCallC m__law_right (aCons (ePlc 1) (aCons (eBlt bTup (aCons (eF (fLc [4] (iRng rng1 (aCons (eBin dAdd (eC (.int 1)) (eCallC m__law_roll (aCons (ePlc 1) (aCons (eC (.int 8)) aNil)))) aNil)) (gNm 4) cYes (eCallC m__law_tablet (aCons (ePlc 1) (aCons (eVar 3) aNil))))) aNil)) aNil))))) (bCons (sRet (eC (.bl false))) bNil) bNil) bNil))) (bCons (sRet (eCallC m__law_written (aCons (ePlc 1) aNil))) bNil))))
def m_law : FS := ⟨ps_law.length, [], runB N_law.length ps_law.length [] B_law⟩
theorem me_law (ds : List D) : m_law.m ds = runB 5 1 [] B_law ds := nr rfl
theorem f_law_ok (g : G K mg) {fd : FuncData} (F : FnP K "law" 55 (He.ga K "law") fd) : FnOk P w K mg base (L2.CX P w) 11 (He.ga K "law") fd ps_law (spF K (S0 K) m_law) := by
  refine fn_ev (ow := [1]) (bor := []) (B := B_law) (fun_of F) sc_law (all_in rfl) (hbl_of rfl) (ho_of rfl) fun cdv A outer s H E hr tk => ?_
  exact (eb_cons (es_if (et_not (et_truth (ev_call0 (c__law_written_right g) same0 rfl hr (by decide) rfl) (fun _ => rfl))) (eb_cons (es_ret ev_bl)
  eb_nil) eb_nil)
  (eb_cons (es_setF (i := 1) (mem_of rfl) (nmem_of rfl) sc_law.nd rfl (Or.inr rfl) (ef_call tk (cf__law_cup g) same0 hr (by decide) rfl (ea_cons (ev_var (i := 0) (nmem_of rfl) rfl (Or.inl rfl)) ea_nil)))
  (eb_cons (es_for (passes_of rfl) rfl (ei_range1 rfl g.b_range (ea_cons ev_int ea_nil)) (eg_nm (i := 2) (nmem_of rfl) (nmem_of rfl) sc_law.nd rfl (Or.inl rfl)) (eb_cons (es_set (i := 3) (nmem_of rfl) (nmem_of rfl) sc_law.nd rfl (Or.inr rfl) (ev_callC tk (c__law_names g) same0 rfl hr (by decide) rfl (ea_cons (ev_plc (i := 1) (mem_of rfl) rfl (Or.inr (Or.inl rfl))) (ea_cons (ev_bin od_add ev_int (ev_callC tk (c__law_roll g) same0 rfl hr (by decide) rfl (ea_cons (ev_plc (i := 1) (mem_of rfl) rfl (Or.inr (Or.inl rfl))) (ea_cons ev_int ea_nil)))) ea_nil))))
  (eb_cons (es_if (et_not (et_truth (ev_callC tk (c__law_right g) same0 rfl hr (by decide) rfl (ea_cons (ev_plc (i := 1) (mem_of rfl) rfl (Or.inr (Or.inl rfl))) (ea_cons (ev_ty cd_tup rfl g.b_tuple (by decide +kernel) (ea_cons (ev_f (ef_lc (own := [("tablet", 4)]) rfl sc_law.nd (all_not rfl) (all_not rfl) (all_in rfl) (ei_range1 rfl g.b_range (ea_cons (ev_bin od_add ev_int (ev_callC tk (c__law_roll g) same0 rfl hr (by decide) rfl (ea_cons (ev_plc (i := 1) (mem_of rfl) rfl (Or.inr (Or.inl rfl))) (ea_cons ev_int ea_nil)))) ea_nil)) (blkOk_by (by rfl)) (fun _ _ _ _ _ => (eg_nm (i := 4) (nmem_of rfl) (nmem_of rfl) sc_law.nd rfl (Or.inl rfl))) (fun _ _ _ _ _ => (ev_callC takes0 (c__law_tablet g) same0 rfl hr (by decide) rfl (ea_cons (ev_plc (i := 1) (mem_of rfl) rfl (Or.inr (Or.inl rfl))) (ea_cons (ev_var (i := 3) (nmem_of rfl) rfl (Or.inr (Or.inl rfl))) ea_nil)))))) ea_nil)) ea_nil))) (fun _ => rfl))) (eb_cons (es_ret ev_bl)
  eb_nil) eb_nil)
  eb_nil)))
  (eb_cons (es_ret (ev_callC tk (c__law_written g) same0 rfl hr (by decide) rfl (ea_cons (ev_plc (i := 1) (mem_of rfl) rfl (Or.inr (Or.inl rfl))) ea_nil)))
  eb_nil))))
end
end LK80

namespace LK80
open PySem PySem.Spec L2 SX EV
/-! ### the cup -/
def cup (a b : Int) : D := .lst [.int a, .int b]
def CupI (d : D) : Prop := ∃ a b, d = cup a b ∧ 0 ≤ a ∧ 0 ≤ b ∧ b < 4294967296
theorem CupI.flatC {c : D} (h : CupI c) : c.flatC = true := by
  obtain ⟨a, b, rfl, _⟩ := h
  rfl
theorem roll_ok {c : D} {n : Int} (hc : CupI c) (hn : 0 < n) (hn2 : n < 1073741824) : ∃ r c', 0 ≤ r ∧ r < n ∧ CupI c' ∧ m__law_roll.m [c, .int n] = .ok (.int r, [c', .int n]) := by
  obtain ⟨a, b, rfl, ha, hb, hb2⟩ := hc
  by_cases h : 0 < a
  · refine ⟨a % n, cup (a / n) b, Int.emod_nonneg _ (by omega), Int.emod_lt_of_pos _ hn, ⟨_, _, rfl, Int.ediv_nonneg ha (by omega), hb, hb2⟩, ?_⟩
    simp [me__law_roll, runB, B__law_roll, r_bCons, start0, cup, dIx, at0, at1, dGT, dCmp, h, bInt, dMod, onII, hn, sStL, dDiv, L2.CDiv, hn2, plcOf, setAt, ix0, outB]
  · have h0 : a = 0 := by omega
    subst h0
    obtain ⟨b', eb⟩ : ∃ x, x = (b * 31051 + 7993) % 2147483543 := ⟨_, rfl⟩
    have b0 : 0 ≤ b' := by rw [eb]; exact Int.emod_nonneg _ (by decide)
    have b1 : b' < 2147483543 := by rw [eb]; exact Int.emod_lt_of_pos _ (by decide)
    obtain ⟨deep, ed⟩ : ∃ x, x = (b' * (b' + 229)) % 2147483587 := ⟨_, rfl⟩
    refine ⟨deep / 821 % n, cup 0 b', Int.emod_nonneg _ (by omega), Int.emod_lt_of_pos _ hn, ⟨_, _, rfl, by omega, b0, by omega⟩, ?_⟩
    have c1 : L2.CMul b 31051 := .inr ⟨by decide, by decide⟩
    have c2 : L2.CMul b' (b' + 229) := .inl ⟨by omega, by omega⟩
    have c3 : L2.CDiv deep 821 := ⟨by decide, by decide⟩
    simp [me__law_roll, runB, B__law_roll, r_bCons, start0, cup, dIx, at0, at1, dGT, dCmp, bInt, dMod, onII, hn, sStL, dMul, dMulI, c1, dAdd, dDiv, c3, plcOf, setAt, ix1, outB, ← eb, c2, ← ed]
/-- things[roll] -/
theorem ixN_of {n : Nat} {r : Int} (h0 : 0 ≤ r) (h1 : r < n) : ixN n r = some r.toNat := by
  unfold ixN
  rw [if_pos h0, if_pos h1]
theorem atI_of {α : Type} {xs : List α} {r : Int} (h0 : 0 ≤ r) (h1 : r < xs.length) : ∃ x, L2.atI xs r = some x ∧ x ∈ xs := by
  have : r.toNat < xs.length := by omega
  refine ⟨xs[r.toNat], ?_, List.getElem_mem _⟩
  unfold L2.atI
  rw [ixN_of h0 h1]
  show xs[r.toNat]? = _
  exact List.getElem?_eq_getElem this
theorem some_lst {c : D} {xs : List D} (hc : CupI c) (hn : 0 < xs.length) (hn2 : xs.length < 1073741824) : ∃ x c', x ∈ xs ∧ CupI c' ∧ m__law_some.m [c, .lst xs] = .ok (x, [c', .lst xs]) := by
  obtain ⟨r, c', h0, h1, hc', e⟩ := roll_ok hc (n := xs.length) (by omega) (by omega)
  obtain ⟨x, hx, hm⟩ := atI_of (xs := xs) h0 (by omega)
  exact ⟨x, c', hm, hc', by simp [me__law_some, runB, B__law_some, r_bCons, start0, r_eCallC, bLen, e, dIx, hx, outB]⟩
theorem some_tup {c : D} {xs : List D} (hc : CupI c) (hn : 0 < xs.length) (hn2 : xs.length < 1073741824) : ∃ x c', x ∈ xs ∧ CupI c' ∧ m__law_some.m [c, .tup xs] = .ok (x, [c', .tup xs]) := by
  obtain ⟨r, c', h0, h1, hc', e⟩ := roll_ok hc (n := xs.length) (by omega) (by omega)
  obtain ⟨x, hx, hm⟩ := atI_of (xs := xs) h0 (by omega)
  exact ⟨x, c', hm, hc', by simp [me__law_some, runB, B__law_some, r_bCons, start0, r_eCallC, bLen, e, dIx, hx, outB]⟩
theorem some_str {c : D} {s : List Nat} (hc : CupI c) (hn : 0 < s.length) (hn2 : s.length ≤ LIM) : ∃ x c', x ∈ s ∧ CupI c' ∧ m__law_some.m [c, .str s] = .ok (.str [x], [c', .str s]) := by
  have hL : s.length < 1073741824 := Nat.lt_of_le_of_lt hn2 (by decide)
  obtain ⟨r, c', h0, h1, hc', e⟩ := roll_ok hc (n := s.length) (by omega) (by omega)
  obtain ⟨x, hx, hm⟩ := atI_of (xs := s) h0 (by omega)
  exact ⟨x, c', hm, hc', by simp [me__law_some, runB, B__law_some, r_bCons, start0, r_eCallC, bLen, hn2, e, dIx, hx, outB]⟩
end LK80

namespace LK80
open PySem PySem.Spec L2 SX EV
theorem pow18 : dPow (.int 10) (.int 18) = some (.int 1000000000000000000) := rfl
theorem cup_ok {ns : List Int} (hl : ns.length ≤ 63) : ∃ c, CupI c ∧ mf__law_cup.m [.scr ns] = .ok c := by
  obtain ⟨x, ys, ex⟩ : ∃ x ys, ns.map D.int ++ [D.int 0] = D.int x :: ys := by
    cases ns with
    | nil => exact ⟨0, [], rfl⟩
    | cons n ns => exact ⟨n, ns.map D.int ++ [D.int 0], rfl⟩
  have l1 : (ns.map D.int).length + 1 ≤ LIM := by rw [List.length_map]; exact Nat.le_trans (Nat.add_le_add_right hl 1) (by decide)
  obtain ⟨cell, ec⟩ : ∃ z, z = if x < 0 then -x else x := ⟨_, rfl⟩
  have c0 : 0 ≤ cell := by rw [ec]; split <;> omega
  have c1 : L2.CMul cell 283 := .inr ⟨by decide, by decide⟩
  have c2 : L2.CDiv cell 73 := ⟨by decide, by decide⟩
  have e0 : 0 ≤ (cell * 283 + 3907) % 2077503167 := Int.emod_nonneg _ (by decide)
  have e1 : (cell * 283 + 3907) % 2077503167 < 2077503167 := Int.emod_lt_of_pos _ (by decide)
  refine ⟨cup (if 1000000000000000000 ≤ cell then cell / 73 else 0) ((cell * 283 + 3907) % 2077503167 + 167), ⟨_, _, rfl, ?_, by omega, by omega⟩, ?_⟩
  · split
    · exact Int.ediv_nonneg c0 (by decide)
    · exact Int.le_refl _
  · have hx : L2.atI (D.int x :: ys) 0 = some (D.int x) := at0 _ _
    have la : dAdd (.lst (ns.map D.int)) (.lst [.int 0]) = some (.lst (D.int x :: ys)) := by
      show addL _ _ = _
      unfold addL
      rw [ex]
      exact if_pos l1
    by_cases h : 1000000000000000000 ≤ cell
    · simp [me__law_cup, runBF, B__law_cup, fSeq, start0, la, hx, ← ec, pow18, h, r_divI c2, r_mulI c1, cup]
    · simp [me__law_cup, runBF, B__law_cup, fSeq, start0, la, hx, ← ec, pow18, h, r_divI c2, r_mulI c1, cup]
end LK80

namespace LK80
open PySem PySem.Spec L2 SX EV
/-! ### names -/
def LETT : List Nat := [97, 98, 99, 100, 101, 102, 103, 104, 105, 106, 107, 108, 109, 110, 111, 112, 113, 114, 115, 116, 117, 118, 119, 120, 121, 122]
def SIGNS : List Nat := [97, 98, 99, 100, 101, 102, 103, 104, 105, 106, 107, 108, 109, 110, 111, 112, 113, 114, 115, 116, 117, 118, 119, 120, 121, 122, 48, 49, 50, 51, 52, 53, 54, 55, 56, 57]
def nameB (s : List Nat) : Bool := decide (1 ≤ s.length) && decide (s.length ≤ 12) && s.all (fun c => decide (c ∈ SIGNS)) && (match s with | c :: _ => decide (c ∈ LETT) | [] => false)
theorem lay_strs : ∀ l : List (List Nat), layL (l.map D.str) = true
  | [] => rfl
  | _ :: l => lay_strs l
theorem dep_strs : ∀ l : List (List Nat), depL (l.map D.str) = 0
  | [] => rfl
  | _ :: l => by show max 0 (depL (l.map D.str)) = 0; rw [dep_strs l]; rfl
theorem any_strs (s : List Nat) : ∀ l : List (List Nat), anyEqv (.str s) (l.map D.str) = decide (s ∈ l)
  | [] => rfl
  | x :: l => by
    show ((x == s) || anyEqv (.str s) (l.map D.str)) = _
    rw [any_strs s l]
    by_cases h : x = s
    · subst h; simp
    · have : ¬ s = x := fun e => h e.symm
      simp [h, this]
theorem in_strs (k : Bool → Bool) (s : List Nat) (l : List (List Nat)) : dIn k (.str s) (.lst (l.map D.str)) = some (.bl (k (decide (s ∈ l)))) := by
  have : inOk (.str s) (l.map D.str) = true := by
    unfold inOk
    rw [lay_strs, dep_strs]
    rfl
  show (if inOk (.str s) (l.map D.str) = true then some (D.bl (k (anyEqv (.str s) (l.map D.str)))) else none) = _
  rw [if_pos this, any_strs]
theorem nd_le {α : Type} [DecidableEq α] : ∀ {l m : List α}, l.Nodup → (∀ x, x ∈ l → x ∈ m) → l.length ≤ m.length
  | [], _, _, _ => Nat.zero_le _
  | x :: l, m, hn, hs => by
    obtain ⟨h1, h2⟩ := List.nodup_cons.mp hn
    have hx : x ∈ m := hs x List.mem_cons_self
    have := nd_le (l := l) (m := m.erase x) h2 fun y hy => (List.mem_erase_of_ne fun e => h1 (by rw [← e]; exact hy)).mpr (hs y (List.mem_cons_of_mem _ hy))
    rw [List.length_erase_of_mem hx] at this
    have : 0 < m.length := List.length_pos_of_mem hx
    rw [List.length_cons]
    omega
def NMS : List (List Nat) := (List.range 70).map fun k => 110 :: TL.numL k
theorem nms_nd : NMS.Nodup := by decide +kernel
theorem nms_ok : ∀ s, s ∈ NMS → nameB s = true := by decide +kernel
theorem nms_free {l : List (List Nat)} (h : l.length < 70) : ∃ s r, NMS.filter (fun s => !decide (s ∈ l)) = s :: r := by
  cases q : NMS.filter (fun s => !decide (s ∈ l)) with
  | cons s r => exact ⟨s, r, rfl⟩
  | nil =>
    have : NMS.length ≤ l.length := nd_le nms_nd fun x hx => by
      have z := List.filter_eq_nil_iff.mp q x hx
      simpa using z
    have e : NMS.length = 70 := by decide +kernel
    omega
theorem head_mem {x : List Nat} {l r : List (List Nat)} {p : List Nat → Bool} (h : l.filter p = x :: r) : x ∈ l := (List.mem_filter.mp (by rw [h]; exact List.mem_cons_self)).1
theorem in_letters : dAdd (.str LETT) (.str [48, 49, 50, 51, 52, 53, 54, 55, 56, 57]) = some (.str SIGNS) := rfl
theorem lett_signs : ∀ c, c ∈ LETT → c ∈ SIGNS := by decide +kernel
/-- a name that grows -/
def grows (s : List Nat) : Prop := 1 ≤ s.length ∧ (∀ c, c ∈ s → c ∈ SIGNS) ∧ ∃ c r, s = c :: r ∧ c ∈ LETT
theorem grows_name {s : List Nat} (h : grows s) (hl : s.length ≤ 12) : nameB s = true := by
  obtain ⟨h1, h2, c, r, rfl, h3⟩ := h
  have a1 : (c :: r).all (fun c => decide (c ∈ SIGNS)) = true := List.all_eq_true.mpr fun x hx => decide_eq_true (h2 x hx)
  unfold nameB
  rw [decide_eq_true h1, decide_eq_true hl, a1]
  exact decide_eq_true h3
theorem grows_add {s : List Nat} {x : Nat} (h : grows s) (hx : x ∈ SIGNS) : grows (s ++ [x]) := by
  obtain ⟨h1, h2, c, r, rfl, h3⟩ := h
  refine ⟨by rw [List.length_append]; omega, fun y hy => ?_, c, r ++ [x], rfl, h3⟩
  rcases List.mem_append.mp hy with hy | hy
  · exact h2 y hy
  · rw [List.mem_singleton.mp hy]; exact hx
def nB2 : SS := bCons (sSet 5 (eBin dAdd (eVar 5) (eCallC m__law_some (aCons (ePlc 0) (aCons (eBin dAdd (eVar 2) (eVar 3)) aNil))))) bNil
theorem nm_in {T : D} {t : Option D} (n : Nat) {c : D} {s : List Nat} {m : Option D} (hc : CupI c) (hs : grows s) (hl : s.length + n ≤ 12) :
    ∃ c' s' m', CupI c' ∧ grows s' ∧ s'.length ≤ 12 ∧ forL (gNm 6) nB2 ((List.range n).map fun (i : Nat) => D.int i) [some c, some T, some (.str LETT), some (.str [48, 49, 50, 51, 52, 53, 54, 55, 56, 57]), t, some (.str s), m, none] = .ok (.nx, [some c', some T, some (.str LETT), some (.str [48, 49, 50, 51, 52, 53, 54, 55, 56, 57]), t, some (.str s'), m', none]) := by
  obtain ⟨r, h1, h2⟩ := forL_w (g := gNm 6) (B := nB2) (e := fun (i : Nat) => D.int i)
    (I := fun rest ρ => ∃ c s m, CupI c ∧ grows s ∧ s.length + rest.length ≤ 12 ∧ ρ = [some c, some T, some (.str LETT), some (.str [48, 49, 50, 51, 52, 53, 54, 55, 56, 57]), t, some (.str s), m, none])
    (Q := fun r => r.1 = .nx ∧ ∃ c s m, CupI c ∧ grows s ∧ s.length ≤ 12 ∧ r.2 = [some c, some T, some (.str LETT), some (.str [48, 49, 50, 51, 52, 53, 54, 55, 56, 57]), t, some (.str s), m, none])
    (List.range n) _ ⟨c, s, m, hc, hs, by rw [List.length_range]; exact hl, rfl⟩
    (fun k rest ρ h => by
      obtain ⟨c, s, m, hc, hs, hl, rfl⟩ := h
      obtain ⟨x, c', hx, hc', e⟩ := some_str (s := SIGNS) hc (by decide) (by decide)
      rw [List.length_cons] at hl
      refine ⟨_, .nx, [some c', some T, some (.str LETT), some (.str [48, 49, 50, 51, 52, 53, 54, 55, 56, 57]), t, some (.str (s ++ [x])), some (.int k), none], rfl, ?_, c', s ++ [x], some (.int k), hc', grows_add hs hx, by rw [List.length_append]; simp; omega, rfl⟩
      have la : s.length + [x].length ≤ 16777216 := by simp; omega
      simp [nB2, r_bCons, r_eCallC, in_letters, e, r_addS la])
    (fun ρ h => by
      obtain ⟨c, s, m, hc, hs, hl, rfl⟩ := h
      exact ⟨rfl, c, s, m, hc, hs, by simpa using hl, rfl⟩)
  obtain ⟨q1, c', s', m', a1, a2, a3, a4⟩ := h2
  refine ⟨c', s', m', a1, a2, a3, ?_⟩
  rw [h1]
  obtain ⟨fl, ρ'⟩ := r
  cases q1
  cases a4
  rfl
def nB1 : SS := bCons (sSet 5 (eCallC m__law_some (aCons (ePlc 0) (aCons (eVar 2) aNil)))) (bCons (sFor (iRng rng1 (aCons (eCallC m__law_some (aCons (ePlc 0) (aCons (eF (fLst (aCons (eC (.int 0)) (aCons (eC (.int 0)) (aCons (eC (.int 0)) (aCons (eC (.int 1)) (aCons (eC (.int 2)) (aCons (eC (.int 11)) aNil)))))))) aNil))) aNil)) (gNm 6) nB2) (bCons (sIf (tB (eBin (dIn not) (eVar 5) (eVar 1))) (bCons (sRet (eVar 5)) bNil) bNil) bNil))
theorem mores {x : D} (h : x ∈ [D.int 0, D.int 0, D.int 0, D.int 1, D.int 2, D.int 11]) : ∃ k : Nat, x = .int k ∧ k ≤ 11 := by
  simp at h
  rcases h with rfl | rfl | rfl | rfl
  · exact ⟨0, rfl, by omega⟩
  · exact ⟨1, rfl, by omega⟩
  · exact ⟨2, rfl, by omega⟩
  · exact ⟨11, rfl, by omega⟩
abbrev nE (c T : D) (t n m : Option D) : EV.Env := [some c, some T, some (.str LETT), some (.str [48, 49, 50, 51, 52, 53, 54, 55, 56, 57]), t, n, m, none]
end LK80

namespace LK80
open PySem PySem.Spec L2 SX EV
theorem nm_turn {l : List (List Nat)} {t n m : Option D} {c : D} (hc : CupI c) : ∃ c' s m', CupI c' ∧ nameB s = true ∧ nB1 (nE c (.lst (l.map D.str)) t n m) = .ok (if s ∈ l then .nx else .ret (.str s), nE c' (.lst (l.map D.str)) t (some (.str s)) m') := by
  obtain ⟨x, c1, hx, hc1, e1⟩ := some_str (s := LETT) hc (by decide) (by decide)
  obtain ⟨y, c2, hy, hc2, e2⟩ := some_lst (xs := [D.int 0, D.int 0, D.int 0, D.int 1, D.int 2, D.int 11]) hc1 (by decide) (by decide)
  obtain ⟨k, rfl, hk⟩ := mores hy
  obtain ⟨c3, s, m', hc3, hs, hl, e3⟩ := nm_in (T := .lst (l.map D.str)) (t := t) (m := m) k (s := [x]) hc2 ⟨by simp, fun z hz => by rw [List.mem_singleton.mp hz]; exact lett_signs x hx, x, [], rfl, hx⟩ (by simp; omega)
  refine ⟨c3, s, m', hc3, grows_name hs hl, ?_⟩
  have r1 := r_rng1 (j := (k : Int)) (by omega) (by omega)
  rw [Int.toNat_natCast] at r1
  by_cases hm : s ∈ l
  · simp [nB1, nE, r_bCons, r_eCallC, e1, e2, r1, e3, in_strs, hm]
  · simp [nB1, nE, r_bCons, r_eCallC, e1, e2, r1, e3, in_strs, hm]
end LK80

namespace LK80
open PySem PySem.Spec L2 SX EV
def nB3 : SS := bCons (sRet (eBin dIx (eF (fLc [5] (iSeq (eF (fLc [7] (iRng rng1 (aCons (eC (.int 70)) aNil)) (gNm 7) cYes (eBin dAdd (eC (.str [110])) (eBlt bStr (aCons (eVar 7) aNil)))))) (gNm 5) (tB (eBin (dIn not) (eVar 5) (eVar 1))) (eVar 5))) (eC (.int 0)))) bNil
theorem nm_last {l : List (List Nat)} {t n m : Option D} {c : D} (hl : l.length < 60) : ∃ s, nameB s = true ∧ nB3 (nE c (.lst (l.map D.str)) t n m) = .ok (.ret (.str s), nE c (.lst (l.map D.str)) t n m) := by
  obtain ⟨s, r, e⟩ := nms_free (l := l) (by omega)
  refine ⟨s, nms_ok s (head_mem e), ?_⟩
  have h1 : fLc [7] (iRng rng1 (aCons (eC (.int 70)) aNil)) (gNm 7) cYes (eBin dAdd (eC (.str [110])) (eBlt bStr (aCons (eVar 7) aNil))) (nE c (.lst (l.map D.str)) t n m) = .ok (.lst (NMS.map D.str), nE c (.lst (l.map D.str)) t n m) := by
    have := fLc_map (vs := [7]) (fi := iRng rng1 (aCons (eC (.int 70)) aNil)) (g := gNm 7) (elt := eBin dAdd (eC (.str [110])) (eBlt bStr (aCons (eVar 7) aNil))) (ρ := nE c (.lst (l.map D.str)) t n m) (List.range 70) (fun (i : Nat) => D.int i) (fun k => D.str (110 :: TL.numL k)) ?_ (Nat.le_trans (by simp : (List.range 70).length ≤ 70) (by decide)) fun k hk => ⟨nE c (.lst (l.map D.str)) t n m |>.set 7 (some (.int k)), ?_, ?_, ?_⟩
    · rw [this]
      unfold NMS
      rw [List.map_map]
      rfl
    · have r1 := r_rng1 (j := 70) (by omega) (by omega)
      simp [r1]
    · rfl
    · exact ⟨rfl, fun j hj => by
        have : j ≠ 7 := by simpa using hj
        match j, this with
        | 0, _ => rfl
        | 1, _ => rfl
        | 2, _ => rfl
        | 3, _ => rfl
        | 4, _ => rfl
        | 5, _ => rfl
        | 6, _ => rfl
        | _ + 8, _ => rfl⟩
    · have hk := List.mem_range.mp hk
      have : bStr [.int k] = some (.str (TL.numL k)) := by
        show (if 0 ≤ (k : Int) ∧ (k : Int) < 1000000 then some (D.str (TL.numL (k : Int).toNat)) else none) = _
        rw [if_pos ⟨by omega, by omega⟩, Int.toNat_natCast]
      have hn : (TL.numL k).length ≤ 100 := by
        have : ∀ k, k < 70 → (TL.numL k).length ≤ 100 := by decide +kernel
        exact this k hk
      have la : [110].length + (TL.numL k).length ≤ 16777216 := by simp; omega
      simp [this, r_addS la]
  have h2 : fLc [5] (iSeq (eF (fLc [7] (iRng rng1 (aCons (eC (.int 70)) aNil)) (gNm 7) cYes (eBin dAdd (eC (.str [110])) (eBlt bStr (aCons (eVar 7) aNil)))))) (gNm 5) (tB (eBin (dIn not) (eVar 5) (eVar 1))) (eVar 5) (nE c (.lst (l.map D.str)) t n m) = .ok (.lst ((NMS.filter fun s => !decide (s ∈ l)).map D.str), nE c (.lst (l.map D.str)) t n m) := by
    refine fLc_pure NMS D.str _ _ ?_ (Nat.le_trans (by decide +kernel : NMS.length ≤ 70) (by decide)) fun s hs => ⟨nE c (.lst (l.map D.str)) t (some (.str s)) m, ?_, ?_, ?_, ?_⟩
    · simp [h1]
    · rfl
    · exact ⟨rfl, fun j hj => by
        have : j ≠ 5 := by simpa using hj
        match j, this with
        | 0, _ => rfl
        | 1, _ => rfl
        | 2, _ => rfl
        | 3, _ => rfl
        | 4, _ => rfl
        | 6, _ => rfl
        | 7, _ => rfl
        | _ + 8, _ => rfl⟩
    · simp [in_strs]
    · intro _
      simp
  simp [nB3, r_bCons, h2, e, at0]
theorem name_ok {c : D} {l : List (List Nat)} (hc : CupI c) (hl : l.length < 60) : ∃ s c', nameB s = true ∧ CupI c' ∧ m__law_name.m [c, .lst (l.map D.str)] = .ok (.str s, [c', .lst (l.map D.str)]) := by
  obtain ⟨r, h1, h2⟩ := forL_w (g := gNm 4) (B := nB1) (e := fun (i : Nat) => D.int i)
    (I := fun rest ρ => ∃ c t n m, CupI c ∧ ρ = nE c (.lst (l.map D.str)) t n m)
    (Q := fun r => ∃ c t n m, CupI c ∧ r.2 = nE c (.lst (l.map D.str)) t n m ∧ (r.1 = .nx ∨ ∃ s, nameB s = true ∧ r.1 = .ret (.str s)))
    (List.range 3) (nE c (.lst (l.map D.str)) none none none) ⟨c, none, none, none, hc, rfl⟩
    (fun k rest ρ h => by
      obtain ⟨c, t, n, m, hc, rfl⟩ := h
      obtain ⟨c', s, m', hc', hs, e⟩ := nm_turn (l := l) (t := some (.int k)) (n := n) (m := m) hc
      refine ⟨_, _, _, rfl, e, ?_⟩
      by_cases hm : s ∈ l
      · rw [if_pos hm]
        exact ⟨c', _, _, _, hc', rfl⟩
      · rw [if_neg hm]
        exact ⟨c', _, _, _, hc', rfl, .inr ⟨s, hs, rfl⟩⟩)
    (fun ρ h => by
      obtain ⟨c, t, n, m, hc, rfl⟩ := h
      exact ⟨c, t, n, m, hc, rfl, .inl rfl⟩)
  obtain ⟨c', t, n, m, hc', e2, hq⟩ := h2
  obtain ⟨fl, ρ'⟩ := r
  cases e2
  have eB : B__law_name = bCons (sAsgN (gTupD 2 (gsCons (gNm 2) (gsCons (gNm 3) gsNil))) (eTup (aCons (eC (.str LETT)) (aCons (eC (.str [48, 49, 50, 51, 52, 53, 54, 55, 56, 57])) aNil)))) (bCons (sFor (iRng rng1 (aCons (eC (.int 3)) aNil)) (gNm 4) nB1) nB3) := rfl
  have r3 := r_rng1 (j := 3) (by omega) (by omega)
  have h1' : forL (gNm 4) nB1 ((List.range 3).map fun (i : Nat) => D.int i) (nE c (.lst (l.map D.str)) none none none) = _ := h1
  rcases hq with hq | ⟨s, hs, hq⟩
  · obtain ⟨s, hs, e⟩ := nm_last (l := l) (t := t) (n := n) (m := m) (c := c') hl
    cases hq
    refine ⟨s, c', hs, hc', ?_⟩
    simp [me__law_name, r_runB, eB, r_bCons, start0, gTupD, gsCons, r3, h1', e]
  · cases hq
    refine ⟨s, c', hs, hc', ?_⟩
    simp [me__law_name, r_runB, eB, r_bCons, start0, gTupD, gsCons, r3, h1']
end LK80

namespace LK80
open PySem PySem.Spec L2 SX EV
/-! ### lists of names, tablets -/
def NmsI (l : List (List Nat)) : Prop := ∀ s, s ∈ l → nameB s = true
def nlB : SS := bCons (sExpr (eApp (ePlc 2) (eCallC m__law_name (aCons (ePlc 0) (aCons (ePlc 2) aNil))))) bNil
theorem flat_strs' : ∀ l : List (List Nat), flatL (l.map D.str) = true
  | [] => rfl
  | _ :: l => flat_strs' l
theorem dStrs_map : ∀ l : List (List Nat), dStrs (l.map D.str) = some l
  | [] => rfl
  | x :: l => by
    show (dStrs (l.map D.str)).map (x :: ·) = _
    rw [dStrs_map l]
    rfl
theorem sort_strs {l : List (List Nat)} (h : l.length < 64) : bSort [.lst (l.map D.str)] = some (.lst ((sortS l).map D.str)) := by
  show ((dStrs (l.map D.str)).bind fun ss => if ss.length < 64 then some (D.lst ((sortS ss).map D.str)) else none) = _
  rw [dStrs_map]
  exact if_pos h
theorem names_ok {c : D} {n : Nat} (hc : CupI c) (hn : n ≤ 50) : ∃ l c', l.length = n ∧ NmsI l ∧ CupI c' ∧ m__law_names.m [c, .int n] = .ok (.lst (l.map D.str), [c', .int n]) := by
  obtain ⟨r, h1, h2⟩ := forL_w (g := gNm 3) (B := nlB) (e := fun (i : Nat) => D.int i)
    (I := fun rest ρ => ∃ c l t, CupI c ∧ NmsI l ∧ l.length + rest.length = n ∧ ρ = [some c, some (.int n), some (.lst (l.map D.str)), t])
    (Q := fun r => r.1 = .nx ∧ ∃ c l t, CupI c ∧ NmsI l ∧ l.length = n ∧ r.2 = [some c, some (.int n), some (.lst (l.map D.str)), t])
    (List.range n) [some c, some (.int n), some (.lst []), none] ⟨c, [], none, hc, (fun _ h => (nomatch h)), by simp, rfl⟩
    (fun k rest ρ h => by
      obtain ⟨c, l, t, hc, hl, hlen, rfl⟩ := h
      rw [List.length_cons] at hlen
      obtain ⟨s, c', hs, hc', e⟩ := name_ok (l := l) hc (by omega)
      have la : (l.map D.str).length < 16777216 := by rw [List.length_map]; omega
      refine ⟨_, .nx, [some c', some (.int n), some (.lst ((l ++ [s]).map D.str)), some (.int k)], rfl, ?_, c', l ++ [s], _, hc', fun x hx => ?_, by rw [List.length_append]; simp; omega, rfl⟩
      · simp [nlB, r_bCons, r_eApp, r_eCallC, e, hc'.flatC, r_addTo la, D.flat]
      · rcases List.mem_append.mp hx with hx | hx
        · exact hl x hx
        · rw [List.mem_singleton.mp hx]; exact hs)
    (fun ρ h => by
      obtain ⟨c, l, t, hc, hl, hlen, rfl⟩ := h
      exact ⟨rfl, c, l, t, hc, hl, by simpa using hlen, rfl⟩)
  obtain ⟨q1, c', l, t, hc', hl, hlen, q2⟩ := h2
  obtain ⟨fl, ρ'⟩ := r
  cases q1
  cases q2
  refine ⟨sortS l, c', by rw [(sortS_perm l).length_eq]; exact hlen, fun s hs => hl s ((sortS_perm l).mem_iff.mp hs), hc', ?_⟩
  have eB : B__law_names = bCons (sSetF 2 (fLst aNil)) (bCons (sFor (iRng rng1 (aCons (eVar 1) aNil)) (gNm 3) nlB) (bFrz 2 (bCons (sRet (eF (fBlt bSort (aCons (eVar 2) aNil)))) bNil))) := rfl
  have r1 := r_rng1 (j := (n : Int)) (by omega) (by omega)
  rw [Int.toNat_natCast] at r1
  have hs := sort_strs (l := l) (by omega)
  simp [me__law_names, r_runB, eB, r_bCons, start0, r1, h1, isLive, hs]
def TabI (d : D) : Prop := ∃ (s : List Nat) (l : List (List Nat)), d = .tup [.str s, .tup (l.map D.str)] ∧ (s = [115] ∨ s = [122]) ∧ l.length = 4 ∧ NmsI l
theorem strs_of {l : List (List Nat)} (hl : NmsI l) : ∀ {ds : List D}, (∀ d, d ∈ ds → d ∈ l.map D.str) → ∃ m, ds = m.map D.str ∧ NmsI m ∧ m.length = ds.length
  | [], _ => ⟨[], rfl, (fun _ h => (nomatch h)), rfl⟩
  | d :: ds, h => by
    obtain ⟨m, rfl, hm, e⟩ := strs_of hl (ds := ds) fun x hx => h x (List.mem_cons_of_mem _ hx)
    obtain ⟨s, hs, rfl⟩ := List.mem_map.mp (h d List.mem_cons_self)
    refine ⟨s :: m, rfl, fun x hx => ?_, by rw [List.length_cons, List.length_cons, e]⟩
    rcases List.mem_cons.mp hx with rfl | hx
    · exact hl x hs
    · exact hm x hx
theorem tablet_ok {c : D} {l : List (List Nat)} (hc : CupI c) (hl : NmsI l) (h0 : 0 < l.length) (h1 : l.length ≤ 50) : ∃ d c', TabI d ∧ CupI c' ∧ m__law_tablet.m [c, .lst (l.map D.str)] = .ok (d, [c', .lst (l.map D.str)]) := by
  obtain ⟨x, c1, hx, hc1, e1⟩ := some_lst (xs := [D.str [115], D.str [122]]) hc (by decide) (by decide)
  obtain ⟨ds, ρ', e2, hl2, hp, hI⟩ := lcL_st (vs := [2]) (g := gNm 2) (elt := eCallC m__law_some (aCons (ePlc 0) (aCons (eVar 1) aNil))) (e := fun (i : Nat) => D.int i)
    (I := fun ρ => ∃ c t, CupI c ∧ ρ = [some c, some (.lst (l.map D.str)), t]) (P := fun d => d ∈ l.map D.str) (List.range 4) [some c1, some (.lst (l.map D.str)), none] ⟨c1, none, hc1, rfl⟩
    (fun t _ ρ h => by
      obtain ⟨c, t', hc, rfl⟩ := h
      obtain ⟨y, c', hy, hc', e⟩ := some_lst (xs := l.map D.str) hc (by rw [List.length_map]; exact h0) (by rw [List.length_map]; omega)
      refine ⟨_, y, [some c', some (.lst (l.map D.str)), some (.int t)], rfl, ?_, hy, c', _, hc', rfl⟩
      simp [wipeE, r_eCallC, e])
  obtain ⟨c', t, hc', rfl⟩ := hI
  obtain ⟨m, rfl, hm, e3⟩ := strs_of hl hp
  rw [List.length_map] at hl2
  have hs : ∃ s, x = D.str s ∧ (s = [115] ∨ s = [122]) := by
    simp at hx
    rcases hx with rfl | rfl
    · exact ⟨_, rfl, .inl rfl⟩
    · exact ⟨_, rfl, .inr rfl⟩
  obtain ⟨s, rfl, hs⟩ := hs
  refine ⟨_, c', ⟨s, m, rfl, hs, by simpa using hl2, hm⟩, hc', ?_⟩
  have r4 := r_rng1 (j := 4) (by omega) (by omega)
  have e2' : lcL [2] (gNm 2) cYes (eCallC m__law_some (aCons (ePlc 0) (aCons (eVar 1) aNil))) ((List.range 4).map fun (i : Nat) => D.int i) [some c1, some (.lst (l.map D.str)), none] = _ := e2
  simp [me__law_tablet, r_runB, B__law_tablet, r_bCons, start0, r_eCallC, e1, fLc, r4, e2', restE]
end LK80

namespace EV
open PySem PySem.Spec L2 SX
open PyProof.Rows hiding St
variable {α : Type} {i j : Nat} {fi : Env → Res (List D × Env)} {cnd : Env → Res (Bool × Env)} {elt : SE} {ρ : Env}
/-- the slots inside a comprehension of one name -/
abbrev w1 (ρ : Env) (i : Nat) (d : D) : Env := st (wipeE ρ [i]) i (some d)
theorem fLc_map1 (ts : List α) (e f : α → D) (hi : fi ρ = .ok (ts.map e, ρ)) (hl : ts.length ≤ 16777216) (h : ∀ t, t ∈ ts → elt (w1 ρ i (e t)) = .ok (.val (f t), w1 ρ i (e t))) : fLc [i] fi (gNm i) cYes elt ρ = .ok (.lst (ts.map f), ρ) :=
  fLc_map ts e f hi hl fun t ht => ⟨_, rfl, (same_wipe [i] ρ).st (by simp), h t ht⟩
theorem fLc_flt1 (ts : List α) (e : α → D) (p : α → Bool) (f : α → D) (hi : fi ρ = .ok (ts.map e, ρ)) (hl : ts.length ≤ 16777216) (hc : ∀ t, t ∈ ts → cnd (w1 ρ i (e t)) = .ok (p t, w1 ρ i (e t))) (h : ∀ t, t ∈ ts → p t = true → elt (w1 ρ i (e t)) = .ok (.val (f t), w1 ρ i (e t))) : fLc [i] fi (gNm i) cnd elt ρ = .ok (.lst ((ts.filter p).map f), ρ) :=
  fLc_pure ts e p f hi hl fun t ht => ⟨_, rfl, (same_wipe [i] ρ).st (by simp), hc t ht, h t ht⟩
/-- .. of two names -/
abbrev w2 (ρ : Env) (i j : Nat) (a b : D) : Env := st (st (wipeE ρ [i, j]) i (some a)) j (some b)
abbrev g2 (i j : Nat) : D → Env → Res Env := gTupD 2 (gsCons (gNm i) (gsCons (gNm j) gsNil))
theorem g2_ok (a b : D) (ρ : Env) : g2 i j (.tup [a, b]) ρ = .ok (st (st ρ i (some a)) j (some b)) := rfl
theorem fLc_map2 (ts : List α) (a b f : α → D) (hi : fi ρ = .ok (ts.map (fun t => .tup [a t, b t]), ρ)) (hl : ts.length ≤ 16777216) (h : ∀ t, t ∈ ts → elt (w2 ρ i j (a t) (b t)) = .ok (.val (f t), w2 ρ i j (a t) (b t))) : fLc [i, j] fi (g2 i j) cYes elt ρ = .ok (.lst (ts.map f), ρ) :=
  fLc_map ts (fun t => .tup [a t, b t]) f hi hl fun t ht => ⟨_, g2_ok _ _ _, ((same_wipe [i, j] ρ).st (by simp)).st (by simp), h t ht⟩
theorem fLc_flt2 (ts : List α) (a b : α → D) (p : α → Bool) (f : α → D) (hi : fi ρ = .ok (ts.map (fun t => .tup [a t, b t]), ρ)) (hl : ts.length ≤ 16777216) (hc : ∀ t, t ∈ ts → cnd (w2 ρ i j (a t) (b t)) = .ok (p t, w2 ρ i j (a t) (b t))) (h : ∀ t, t ∈ ts → p t = true → elt (w2 ρ i j (a t) (b t)) = .ok (.val (f t), w2 ρ i j (a t) (b t))) : fLc [i, j] fi (g2 i j) cnd elt ρ = .ok (.lst ((ts.filter p).map f), ρ) :=
  fLc_pure ts (fun t => .tup [a t, b t]) p f hi hl fun t ht => ⟨_, g2_ok _ _ _, ((same_wipe [i, j] ρ).st (by simp)).st (by simp), hc t ht, h t ht⟩
theorem zipL_map (ts : List α) (a b : α → D) : zipL (ts.map a) (ts.map b) = ts.map fun t => .tup [a t, b t] := by
  induction ts with
  | nil => rfl
  | cons t ts ih => show D.tup [a t, b t] :: zipL (ts.map a) (ts.map b) = _; rw [ih]; rfl
theorem bls_map (p : α → Bool) : ∀ ts : List α, dBls (ts.map fun t => .bl (p t)) = some (ts.map p)
  | [] => rfl
  | t :: ts => by
    show (dBls (ts.map fun t => .bl (p t))).map (p t :: ·) = _
    rw [bls_map p ts]
    rfl
theorem all_map (p : α → Bool) (ts : List α) : bAll [.lst (ts.map fun t => .bl (p t))] = some (.bl (ts.all p)) := by
  show (dBls (ts.map fun t => .bl (p t))).map (fun bs => D.bl (bs.all id)) = _
  rw [bls_map]
  simp [List.all_map]
theorem in_sign (c : Nat) (s : List Nat) (k : Bool → Bool) : dIn k (.str [c]) (.str s) = some (.bl (k (decide (c ∈ s)))) := by
  show some (D.bl (k (strIn [c] s))) = _
  unfold strIn
  rw [in_one]
/-! small data -/
mutual
def D.sm : D → Bool
  | .tup xs => decide (xs.length ≤ 1000) && smL xs
  | .lst xs => decide (xs.length ≤ 1000) && smL xs
  | .str s => decide (s.length ≤ 1000)
  | .dk _ => false
  | .dt _ => false
  | .fn _ => false
  | .scr _ => false
  | _ => true
def smL : List D → Bool
  | [] => true
  | d :: r => d.sm && smL r
end
theorem smL_mem : ∀ {ds : List D}, smL ds = true → ∀ d, d ∈ ds → d.sm = true
  | [], _, _, h => nomatch h
  | x :: xs, h, d, hm => by
    have h' : (x.sm && smL xs) = true := h
    rw [Bool.and_eq_true] at h'
    rcases List.mem_cons.mp hm with rfl | hm
    · exact h'.1
    · exact smL_mem h'.2 d hm
theorem smL_of : ∀ {ds : List D}, (∀ d, d ∈ ds → d.sm = true) → smL ds = true
  | [], _ => rfl
  | x :: xs, h => by
    show (x.sm && smL xs) = true
    rw [h x List.mem_cons_self, smL_of fun d hd => h d (List.mem_cons_of_mem _ hd)]
    rfl
mutual
theorem sm_lay : ∀ d : D, d.sm = true → d.lay = true
  | .tup xs, h => by
    have h' : (decide (xs.length ≤ 1000) && smL xs) = true := h
    rw [Bool.and_eq_true] at h'
    exact smL_lay xs h'.2
  | .lst xs, h => by
    have h' : (decide (xs.length ≤ 1000) && smL xs) = true := h
    rw [Bool.and_eq_true] at h'
    exact smL_lay xs h'.2
  | .str _, _ => rfl
  | .non, _ => rfl
  | .bl _, _ => rfl
  | .int _, _ => rfl
  | .dk _, h => nomatch h
  | .dt _, h => nomatch h
  | .fn _, h => nomatch h
  | .scr _, h => nomatch h
theorem smL_lay : ∀ ds : List D, smL ds = true → layL ds = true
  | [], _ => rfl
  | x :: xs, h => by
    have h' : (x.sm && smL xs) = true := h
    rw [Bool.and_eq_true] at h'
    show (x.lay && layL xs) = true
    rw [sm_lay x h'.1, smL_lay xs h'.2]
    rfl
end
theorem sm_tup {xs : List D} (h : (D.tup xs).sm = true) : xs.length ≤ 1000 ∧ ∀ d, d ∈ xs → d.sm = true := by
  have h' : (decide (xs.length ≤ 1000) && smL xs) = true := h
  rw [Bool.and_eq_true, decide_eq_true_eq] at h'
  exact ⟨h'.1, smL_mem h'.2⟩
theorem sm_str {s : List Nat} (h : (D.str s).sm = true) : s.length ≤ 1000 := of_decide_eq_true h
/-- == [] -/
theorem eq_nilL (xs : List D) (h : layL xs = true) : dEq (.lst xs) (.lst []) = some (.bl xs.isEmpty) := by
  have : eqOk (.lst xs) (.lst []) = true := by
    show (layL xs && true && decide (min (depL xs + 1) 1 ≤ 64)) = true
    rw [h]
    simp
  show (if eqOk (.lst xs) (.lst []) = true then some (D.bl (eqvL xs [])) else none) = _
  rw [if_pos this]
  cases xs <;> rfl
end EV

namespace LK80
open PySem PySem.Spec L2 SX EV
/-! ### names as the program asks, and as the law asks -/
def lenB (s : List Nat) : Bool := decide (1 ≤ s.length) && decide (s.length ≤ 12)
def sgnB (s : List Nat) : Bool := s.all fun c => decide (c ∈ SIGNS)
def hdB : List Nat → Bool
  | c :: _ => decide (c ∈ LETT)
  | [] => false
theorem nameB_eq (s : List Nat) : nameB s = (lenB s && sgnB s && hdB s) := by
  unfold nameB lenB sgnB hdB
  cases s <;> rfl
def isNameD : D → Bool
  | .str s => nameB s
  | _ => false
theorem is_str (d : D) (h : d.lay = true) : isD 2 d = some (match d with | .str _ => true | _ => false) := by
  cases d <;> first | rfl | cases h
theorem is_tup (d : D) (h : d.lay = true) : isD 3 d = some (match d with | .tup _ => true | _ => false) := by
  cases d <;> first | rfl | cases h
theorem word_ok {s : List Nat} (hs : s.length ≤ 1000) : Val m_is_word [.str s, .str SIGNS, .int 1, .int 12] (.bl (lenB s && sgnB s)) := by
  have hl := r_lenS (s := s) (by omega)
  have h1 : fLc [4] (iSeq (eVar 0)) (gNm 4) cYes (eBin (dIn id) (eVar 4) (eVar 1)) [some (.str s), some (.str SIGNS), some (.int 1), some (.int 12), none] = .ok (.lst (s.map fun c => .bl (decide (c ∈ SIGNS))), [some (.str s), some (.str SIGNS), some (.int 1), some (.int 12), none]) := by
    refine fLc_map1 s (fun c => .str [c]) _ (by simp [signs]) (by omega) fun c hc => ?_
    simp [w1, wipeE, in_sign]
  by_cases hb : lenB s = true
  · have hb' := hb
    unfold lenB at hb'
    rw [Bool.and_eq_true, decide_eq_true_eq, decide_eq_true_eq] at hb'
    have g1 : (1 : Int) ≤ s.length := by omega
    have g2 : (s.length : Int) ≤ 12 := by omega
    exact ⟨_, by simp [me_is_word, r_runB, B_is_word, r_bCons, start0, isD, hl, g1, g2, h1, all_map, hb, sgnB]; rfl⟩
  · have hb0 : lenB s = false := by simpa using hb
    by_cases g1 : (1 : Int) ≤ s.length
    · have g2 : ¬ (s.length : Int) ≤ 12 := fun z => hb (by unfold lenB; rw [decide_eq_true (by omega), decide_eq_true (by omega)]; rfl)
      exact ⟨_, by simp [me_is_word, r_runB, B_is_word, r_bCons, start0, isD, hl, g1, g2, hb0]; rfl⟩
    · exact ⟨_, by simp [me_is_word, r_runB, B_is_word, r_bCons, start0, isD, hl, g1, hb0]; rfl⟩
theorem name_ok1 {d : D} (h : d.sm = true) : Val m_is_name [d] (.bl (isNameD d)) := by
  have ls : dAdd (.str [97, 98, 99, 100, 101, 102, 103, 104, 105, 106, 107, 108, 109, 110, 111, 112, 113, 114, 115, 116, 117, 118, 119, 120, 121, 122]) (.str [48, 49, 50, 51, 52, 53, 54, 55, 56, 57]) = some (.str SIGNS) := rfl
  by_cases hs : ∃ s, d = .str s
  · obtain ⟨s, rfl⟩ := hs
    obtain ⟨o, e⟩ := word_ok (sm_str h)
    by_cases hb : (lenB s && sgnB s) = true
    · cases s with
      | nil => cases hb
      | cons c r =>
        have ix : dIx (.str (c :: r)) (.int 0) = some (.str [c]) := by
          show (if (c :: r).length ≤ LIM then (L2.atI (c :: r) 0).map fun c => D.str [c] else none) = _
          rw [if_pos (Nat.le_trans (sm_str h) (by decide)), at0]
          rfl
        have e2 : isNameD (.str (c :: r)) = decide (c ∈ LETT) := by
          show nameB (c :: r) = _
          rw [nameB_eq, hb, Bool.true_and]
          rfl
        rw [hb] at e
        have il : dIn id (.str [c]) (.str [97, 98, 99, 100, 101, 102, 103, 104, 105, 106, 107, 108, 109, 110, 111, 112, 113, 114, 115, 116, 117, 118, 119, 120, 121, 122]) = some (.bl (decide (c ∈ LETT))) := in_sign c LETT id
        exact ⟨_, by simp [me_is_name, r_runB, B_is_name, r_bCons, start0, r_eCall, ls, e, ix, il, e2]; rfl⟩
    · have hb0 : (lenB s && sgnB s) = false := by simpa using hb
      have e2 : isNameD (.str s) = false := by
        show nameB s = _
        rw [nameB_eq, hb0]
        rfl
      rw [hb0] at e
      exact ⟨_, by simp [me_is_name, r_runB, B_is_name, r_bCons, start0, r_eCall, ls, e, e2]; rfl⟩
  · have e2 : isNameD d = false := by
      cases d <;> first | rfl | exact absurd ⟨_, rfl⟩ hs
    have e3 : isD 2 d = some false := by
      rw [is_str d (sm_lay d h)]
      cases d <;> first | rfl | exact absurd ⟨_, rfl⟩ hs
    have e : m_is_word.m [d, .str SIGNS, .int 1, .int 12] = .ok (.bl false, [d, .str SIGNS, .int 1, .int 12]) := by
      simp [me_is_word, r_runB, B_is_word, r_bCons, start0, e3]
    exact ⟨_, by simp [me_is_name, r_runB, B_is_name, r_bCons, start0, r_eCall, ls, e, e2]; rfl⟩
end LK80

namespace LK80
open PySem PySem.Spec L2 SX EV
/-! ### the law's own look at a name -/
theorem name_ok2 {d : D} (h : d.sm = true) : Val m__law_is_name [d] (.bl (isNameD d)) := by
  have ls : dAdd (.str LETT) (.str [48, 49, 50, 51, 52, 53, 54, 55, 56, 57]) = some (.str SIGNS) := rfl
  have eB : B__law_is_name = (bCons (sSet 1 (eC (.str LETT))) (bCons (sIf (tOr (tNot (tTru (eIsi 2 (eVar 0)))) (tOr (tNot (tB (eChain dLE dLE (eC (.int 1)) (eBlt bLen (aCons (eVar 0) aNil)) (eC (.int 12))))) (tB (eBin (dIn not) (eBin dIx (eVar 0) (eC (.int 0))) (eVar 1))))) (bCons (sRet (eC (.bl false))) bNil) bNil) (bCons (sRet (eBin dEq (eF (fLc [2] (iSeq (eVar 0)) (gNm 2) (tB (eBin (dIn not) (eVar 2) (eBin dAdd (eVar 1) (eC (.str [48, 49, 50, 51, 52, 53, 54, 55, 56, 57]))))) (eVar 2))) (eF (fLst aNil)))) bNil))) := rfl
  by_cases hs : ∃ s, d = .str s
  · obtain ⟨s, rfl⟩ := hs
    have hs := sm_str h
    have hl := r_lenS (s := s) (by omega)
    have e0 : isNameD (.str s) = (lenB s && sgnB s && hdB s) := nameB_eq s
    by_cases g1 : (1 : Int) ≤ s.length
    · by_cases g2 : (s.length : Int) ≤ 12
      · have hb : lenB s = true := by unfold lenB; rw [decide_eq_true (by omega), decide_eq_true (by omega)]; rfl
        cases s with
        | nil => simp at g1
        | cons c r =>
          have ix : dIx (.str (c :: r)) (.int 0) = some (.str [c]) := by
            show (if (c :: r).length ≤ LIM then (L2.atI (c :: r) 0).map fun c => D.str [c] else none) = _
            rw [if_pos (Nat.le_trans hs (by decide)), at0]
            rfl
          have g1' : (1 : Int) ≤ (r.length : Int) + 1 := by simpa using g1
          have g2' : (r.length : Int) + 1 ≤ 12 := by simpa using g2
          by_cases hc : c ∈ LETT
          · have h1 : fLc [2] (iSeq (eVar 0)) (gNm 2) (tB (eBin (dIn not) (eVar 2) (eBin dAdd (eVar 1) (eC (.str [48, 49, 50, 51, 52, 53, 54, 55, 56, 57]))))) (eVar 2) [some (.str (c :: r)), some (.str LETT), none] = .ok (.lst (((c :: r).filter fun c => !decide (c ∈ SIGNS)).map fun c => .str [c]), [some (.str (c :: r)), some (.str LETT), none]) := by
              refine fLc_flt1 (c :: r) (fun c => .str [c]) _ _ (by simp [signs]) (by omega) (fun x hx => ?_) fun x hx _ => ?_
              · simp [w1, wipeE, ls, in_sign]
              · simp [w1, wipeE]
            have h2 := eq_nilL (((c :: r).filter fun c => !decide (c ∈ SIGNS)).map fun c => .str [c]) (by
              have : ∀ l : List Nat, layL (l.map fun c => D.str [c]) = true := fun l => by
                induction l with
                | nil => rfl
                | cons _ _ ih => exact ih
              exact this _)
            have h3 : (((c :: r).filter fun c => !decide (c ∈ SIGNS)).map fun c => D.str [c]).isEmpty = sgnB (c :: r) := by
              rw [List.isEmpty_map]
              unfold sgnB
              rw [Bool.eq_iff_iff, List.isEmpty_iff, List.filter_eq_nil_iff, List.all_eq_true]
              simp
            have e1 : isNameD (.str (c :: r)) = sgnB (c :: r) := by
              rw [e0, hb]
              have : hdB (c :: r) = true := decide_eq_true hc
              rw [this]
              simp
            rw [h3] at h2
            exact ⟨_, by simp [me__law_is_name, r_runB, eB, r_bCons, start0, isD, hl, g1', g2', ix, in_sign, hc, h1, h2, e1]; rfl⟩
          · have e1 : isNameD (.str (c :: r)) = false := by
              rw [e0]
              have : hdB (c :: r) = false := decide_eq_false hc
              rw [this]
              simp
            exact ⟨_, by simp [me__law_is_name, r_runB, eB, r_bCons, start0, isD, hl, g1', g2', ix, in_sign, hc, e1]; rfl⟩
      · have hb : lenB s = false := by unfold lenB; rw [decide_eq_false (p := s.length ≤ 12) (by omega)]; simp
        have e1 : isNameD (.str s) = false := by rw [e0, hb]; rfl
        exact ⟨_, by simp [me__law_is_name, r_runB, eB, r_bCons, start0, isD, hl, g1, g2, e1]; rfl⟩
    · have hb : lenB s = false := by unfold lenB; rw [decide_eq_false (p := 1 ≤ s.length) (by omega)]; simp
      have e1 : isNameD (.str s) = false := by rw [e0, hb]; rfl
      exact ⟨_, by simp [me__law_is_name, r_runB, eB, r_bCons, start0, isD, hl, g1, e1]; rfl⟩
  · have e2 : isNameD d = false := by
      cases d <;> first | rfl | exact absurd ⟨_, rfl⟩ hs
    have e3 : isD 2 d = some false := by
      rw [is_str d (sm_lay d h)]
      cases d <;> first | rfl | exact absurd ⟨_, rfl⟩ hs
    exact ⟨_, by simp [me__law_is_name, r_runB, eB, r_bCons, start0, e3, e2]; rfl⟩
end LK80

namespace LK80
open PySem PySem.Spec L2 SX EV
/-! ### tablets, packs -/
theorem in_strsT (k : Bool → Bool) (s : List Nat) (l : List (List Nat)) : dIn k (.str s) (.tup (l.map D.str)) = some (.bl (k (decide (s ∈ l)))) := in_strs k s l
theorem tup_of {xs : List D} {lo hi : Int} : Val m_is_tuple_of [.tup xs, .int lo, .int hi] (.bl (decide (lo ≤ xs.length) && decide ((xs.length : Int) ≤ hi))) := by
  by_cases h : lo ≤ xs.length
  · exact ⟨_, by simp [me_is_tuple_of, r_runB, B_is_tuple_of, r_bCons, start0, isD, h]; rfl⟩
  · exact ⟨_, by simp [me_is_tuple_of, r_runB, B_is_tuple_of, r_bCons, start0, isD, h]; rfl⟩
theorem tup_no {d : D} {lo hi : Int} (h : isD 3 d = some false) : Val m_is_tuple_of [d, .int lo, .int hi] (.bl false) := ⟨_, by simp [me_is_tuple_of, r_runB, B_is_tuple_of, r_bCons, start0, h]; rfl⟩
def sideB (s : List Nat) : Bool := decide (s ∈ [[115], [122]])
def tabB : D → Bool
  | .tup [.str s, .tup ns] => sideB s && decide (ns.length = 4) && ns.all isNameD
  | _ => false
theorem notup {d : D} (hd : d.sm = true) (h : ¬ ∃ xs, d = .tup xs) : isD 3 d = some false := by
  rw [is_tup d (sm_lay d hd)]
  cases d <;> first | rfl | exact absurd ⟨_, rfl⟩ h
theorem nostr {d : D} (hd : d.sm = true) (h : ¬ ∃ xs, d = .str xs) : isD 2 d = some false := by
  rw [is_str d (sm_lay d hd)]
  cases d <;> first | rfl | exact absurd ⟨_, rfl⟩ h
theorem side_in (k : Bool → Bool) (s : List Nat) : dIn k (.str s) (.tup [.str [115], .str [122]]) = some (.bl (k (sideB s))) := in_strsT k s [[115], [122]]
theorem names_all {ns : List D} (h : ∀ d, d ∈ ns → d.sm = true) {ρ : EV.Env} {fi : EV.Env → Res (List D × EV.Env)} (hi : fi ρ = .ok (ns, ρ)) (hl : ns.length ≤ 1000) (hg : 1 < ρ.length) : fLc [1] fi (gNm 1) cYes (eCall m_is_name (aCons (eVar 1) aNil)) ρ = .ok (.lst (ns.map fun d => .bl (isNameD d)), ρ) := by
  refine fLc_map1 ns (fun d => d) _ (by rw [List.map_id']; exact hi) (by omega) fun d hd => ?_
  obtain ⟨o, e⟩ := name_ok1 (h d hd)
  have e1 : gt (w1 ρ 1 d) 1 = some d := gt_st_same _ _ _ (by rw [wipeE_length]; exact hg)
  simp [r_eCall, e1, e]
theorem tab_ok1 {d : D} (h : d.sm = true) : Val m_fits_tablet [d] (.bl (tabB d)) := by
  by_cases ht : ∃ xs, d = .tup xs
  · obtain ⟨xs, rfl⟩ := ht
    obtain ⟨hl, hm⟩ := sm_tup h
    obtain ⟨o, e⟩ := tup_of (xs := xs) (lo := 2) (hi := 2)
    by_cases h2 : xs.length = 2
    · match xs, h2, hm, h with
      | [a, b], _, hm, h =>
        have ha := hm a (by simp)
        have hb := hm b (by simp)
        have i0 : L2.atI [a, b] 0 = some a := at0 _ _
        have i1 : L2.atI [a, b] 1 = some b := at1 _ _ _
        by_cases hs : ∃ s, a = .str s
        · obtain ⟨s, rfl⟩ := hs
          cases hsd : sideB s with
          | false =>
            have e2 : tabB (.tup [.str s, b]) = false := by
              cases b <;> first | rfl | (show (sideB s && _ && _) = false; rw [hsd]; rfl)
            exact ⟨_, by simp [me_fits_tablet, r_runB, B_fits_tablet, r_bCons, start0, r_eCall, e, i0, isD, side_in, hsd, e2]; rfl⟩
          | true =>
            by_cases hbt : ∃ ns, b = .tup ns
            · obtain ⟨ns, rfl⟩ := hbt
              obtain ⟨hnl, hnm⟩ := sm_tup hb
              obtain ⟨o2, e4⟩ := tup_of (xs := ns) (lo := 4) (hi := 4)
              by_cases h4 : ns.length = 4
              · have e5 := names_all hnm (ρ := [some (.tup [.str s, .tup ns]), none]) (fi := iSeq (eBin dIx (eVar 0) (eC (.int 1)))) (by simp [i1]) hnl (by simp)
                have e2 : tabB (.tup [.str s, .tup ns]) = ns.all isNameD := by
                  show (sideB s && decide (ns.length = 4) && ns.all isNameD) = _
                  rw [hsd, decide_eq_true h4]
                  rfl
                exact ⟨_, by simp [me_fits_tablet, r_runB, B_fits_tablet, r_bCons, start0, r_eCall, e, i0, i1, isD, side_in, hsd, e4, h4, e5, all_map, e2]; rfl⟩
              · have e2 : tabB (.tup [.str s, .tup ns]) = false := by
                  show (sideB s && decide (ns.length = 4) && ns.all isNameD) = _
                  rw [decide_eq_false h4]
                  simp
                have e6 : (decide ((4 : Int) ≤ ns.length) && decide ((ns.length : Int) ≤ 4)) = false := by
                  rw [Bool.and_eq_false_iff, decide_eq_false_iff_not, decide_eq_false_iff_not]
                  omega
                rw [e6] at e4
                exact ⟨_, by simp [me_fits_tablet, r_runB, B_fits_tablet, r_bCons, start0, r_eCall, e, i0, i1, isD, side_in, hsd, e4, e2]; rfl⟩
            · obtain ⟨o2, e4⟩ := tup_no (lo := 4) (hi := 4) (notup hb hbt)
              have e2 : tabB (.tup [.str s, b]) = false := by
                cases b <;> first | rfl | exact absurd ⟨_, rfl⟩ hbt
              exact ⟨_, by simp [me_fits_tablet, r_runB, B_fits_tablet, r_bCons, start0, r_eCall, e, i0, i1, isD, side_in, hsd, e4, e2]; rfl⟩
        · have e2 : tabB (.tup [a, b]) = false := by
            cases a <;> first | rfl | exact absurd ⟨_, rfl⟩ hs
          have e3 := nostr ha hs
          exact ⟨_, by simp [me_fits_tablet, r_runB, B_fits_tablet, r_bCons, start0, r_eCall, e, i0, e3, e2]; rfl⟩
    · have e2 : tabB (.tup xs) = false := by
        unfold tabB
        split
        · rename_i heq
          cases heq
          exact absurd rfl h2
        · rfl
      have e6 : (decide ((2 : Int) ≤ xs.length) && decide ((xs.length : Int) ≤ 2)) = false := by
        rw [Bool.and_eq_false_iff, decide_eq_false_iff_not, decide_eq_false_iff_not]
        omega
      rw [e6] at e
      exact ⟨_, by simp [me_fits_tablet, r_runB, B_fits_tablet, r_bCons, start0, r_eCall, e, e2]; rfl⟩
  · obtain ⟨o, e⟩ := tup_no (lo := 2) (hi := 2) (notup h ht)
    have e2 : tabB d = false := by
      cases d <;> first | rfl | exact absurd ⟨_, rfl⟩ ht
    exact ⟨_, by simp [me_fits_tablet, r_runB, B_fits_tablet, r_bCons, start0, r_eCall, e, e2]; rfl⟩
end LK80

namespace LK80
open PySem PySem.Spec L2 SX EV
theorem is2s (s : List Nat) : isD 2 (.str s) = some true := rfl
theorem is3t (xs : List D) : isD 3 (.tup xs) = some true := rfl
theorem eqI (i j : Int) : dEq (.int i) (.int j) = some (.bl (i == j)) := rfl
theorem neI (i j : Int) : dNe (.int i) (.int j) = some (.bl (!(i == j))) := rfl
theorem names_none {ns : List D} (h : ∀ d, d ∈ ns → d.sm = true) {ρ : EV.Env} {fi : EV.Env → Res (List D × EV.Env)} (hi : fi ρ = .ok (ns, ρ)) (hl : ns.length ≤ 1000) (hg : 1 < ρ.length) : fLc [1] fi (gNm 1) (tNot (tTru (eCall m__law_is_name (aCons (eVar 1) aNil)))) (eVar 1) ρ = .ok (.lst (ns.filter fun d => !isNameD d), ρ) := by
  have := fLc_flt1 (i := 1) (ρ := ρ) (fi := fi) (cnd := tNot (tTru (eCall m__law_is_name (aCons (eVar 1) aNil)))) (elt := eVar 1) ns (fun d => d) (fun d => !isNameD d) (fun d => d) (by rw [List.map_id']; exact hi) (by omega) (fun d hd => ?_) fun d hd _ => ?_
  · rw [List.map_id'] at this
    exact this
  · obtain ⟨o, e⟩ := name_ok2 (h d hd)
    have e1 : gt (w1 ρ 1 d) 1 = some d := gt_st_same _ _ _ (by rw [wipeE_length]; exact hg)
    simp [r_eCall, e1, e]
  · have e1 : gt (w1 ρ 1 d) 1 = some d := gt_st_same _ _ _ (by rw [wipeE_length]; exact hg)
    simp [e1]
theorem lay_filter {ns : List D} {p : D → Bool} (h : ∀ d, d ∈ ns → d.sm = true) : layL (ns.filter p) = true := smL_lay _ (smL_of fun d hd => h d (List.mem_filter.mp hd).1)
theorem none_all {ns : List D} {p : D → Bool} : (ns.filter fun d => !p d).isEmpty = ns.all p := by
  rw [Bool.eq_iff_iff, List.isEmpty_iff, List.filter_eq_nil_iff, List.all_eq_true]
  simp
theorem tab_ok2 {d : D} (h : d.sm = true) : Val m__law_is_tablet [d] (.bl (tabB d)) := by
  by_cases ht : ∃ xs, d = .tup xs
  · obtain ⟨xs, rfl⟩ := ht
    obtain ⟨hl, hm⟩ := sm_tup h
    by_cases h2 : xs.length = 2
    · match xs, h2, hm, h with
      | [a, b], _, hm, h =>
        have ha := hm a (by simp)
        have hb := hm b (by simp)
        have i0 : L2.atI [a, b] 0 = some a := at0 _ _
        have i1 : L2.atI [a, b] 1 = some b := at1 _ _ _
        by_cases hs : ∃ s, a = .str s
        · obtain ⟨s, rfl⟩ := hs
          cases hsd : sideB s with
          | false =>
            have e2 : tabB (.tup [.str s, b]) = false := by
              cases b <;> first | rfl | (show (sideB s && _ && _) = false; rw [hsd]; rfl)
            exact ⟨_, by simp [me__law_is_tablet, r_runB, B__law_is_tablet, r_bCons, start0, i0, is2s, is3t, neI, side_in, hsd, e2]; rfl⟩
          | true =>
            by_cases hbt : ∃ ns, b = .tup ns
            · obtain ⟨ns, rfl⟩ := hbt
              obtain ⟨hnl, hnm⟩ := sm_tup hb
              by_cases h4 : ns.length = 4
              · have e5 := names_none hnm (ρ := [some (.tup [.str s, .tup ns]), none]) (fi := iSeq (eBin dIx (eVar 0) (eC (.int 1)))) (by simp [i1]) hnl (by simp)
                have e7 := eq_nilL _ (lay_filter (p := fun d => !isNameD d) hnm)
                rw [none_all] at e7
                have e2 : tabB (.tup [.str s, .tup ns]) = ns.all isNameD := by
                  show (sideB s && decide (ns.length = 4) && ns.all isNameD) = _
                  rw [hsd, decide_eq_true h4]
                  rfl
                exact ⟨_, by simp [me__law_is_tablet, r_runB, B__law_is_tablet, r_bCons, start0, i0, i1, is2s, is3t, neI, eqI, side_in, hsd, h4, e5, e7, e2]; rfl⟩
              · have e2 : tabB (.tup [.str s, .tup ns]) = false := by
                  show (sideB s && decide (ns.length = 4) && ns.all isNameD) = _
                  rw [decide_eq_false h4]
                  simp
                have e6 : ((ns.length : Int) == 4) = false := by
                  rw [beq_eq_false_iff_ne]
                  omega
                exact ⟨_, by simp [me__law_is_tablet, r_runB, B__law_is_tablet, r_bCons, start0, i0, i1, is2s, is3t, neI, eqI, side_in, hsd, e6, e2]; rfl⟩
            · have e4 := notup hb hbt
              have e2 : tabB (.tup [.str s, b]) = false := by
                cases b <;> first | rfl | exact absurd ⟨_, rfl⟩ hbt
              exact ⟨_, by simp [me__law_is_tablet, r_runB, B__law_is_tablet, r_bCons, start0, i0, i1, is2s, is3t, neI, side_in, hsd, e4, e2]; rfl⟩
        · have e2 : tabB (.tup [a, b]) = false := by
            cases a <;> first | rfl | exact absurd ⟨_, rfl⟩ hs
          have e3 := nostr ha hs
          exact ⟨_, by simp [me__law_is_tablet, r_runB, B__law_is_tablet, r_bCons, start0, i0, is2s, is3t, neI, e3, e2]; rfl⟩
    · have e2 : tabB (.tup xs) = false := by
        unfold tabB
        split
        · rename_i heq
          cases heq
          exact absurd rfl h2
        · rfl
      have e6 : ((xs.length : Int) == 2) = false := by
        rw [beq_eq_false_iff_ne]
        omega
      exact ⟨_, by simp [me__law_is_tablet, r_runB, B__law_is_tablet, r_bCons, start0, is2s, is3t, neI, e6, e2]; rfl⟩
  · have e := notup h ht
    have e2 : tabB d = false := by
      cases d <;> first | rfl | exact absurd ⟨_, rfl⟩ ht
    exact ⟨_, by simp [me__law_is_tablet, r_runB, B__law_is_tablet, r_bCons, start0, e, e2]; rfl⟩
def packB : D → Bool
  | .tup ts => decide (1 ≤ ts.length) && decide (ts.length ≤ 8) && ts.all tabB
  | _ => false
theorem pack_ok1 {d : D} (h : d.sm = true) : Val m_fits_pack [d] (.bl (packB d)) := by
  by_cases ht : ∃ xs, d = .tup xs
  · obtain ⟨xs, rfl⟩ := ht
    obtain ⟨hl, hm⟩ := sm_tup h
    obtain ⟨o, e⟩ := tup_of (xs := xs) (lo := 1) (hi := 8)
    have e1 : (decide ((1 : Int) ≤ xs.length) && decide ((xs.length : Int) ≤ 8)) = (decide (1 ≤ xs.length) && decide (xs.length ≤ 8)) := by
      rw [Bool.eq_iff_iff, Bool.and_eq_true, Bool.and_eq_true, decide_eq_true_eq, decide_eq_true_eq, decide_eq_true_eq, decide_eq_true_eq]
      omega
    rw [e1] at e
    have e5 : fLc [1] (iSeq (eVar 0)) (gNm 1) cYes (eCall m_fits_tablet (aCons (eVar 1) aNil)) [some (.tup xs), none] = .ok (.lst (xs.map fun d => .bl (tabB d)), [some (.tup xs), none]) := by
      refine fLc_map1 xs (fun d => d) _ (by rw [List.map_id']; simp) (by omega) fun d hd => ?_
      obtain ⟨o, e⟩ := tab_ok1 (hm d hd)
      simp [w1, wipeE, r_eCall, e]
    cases hb : (decide (1 ≤ xs.length) && decide (xs.length ≤ 8)) with
    | true =>
      rw [hb] at e
      have e2 : packB (.tup xs) = xs.all tabB := by show (_ && _ && _) = _; rw [hb]; rfl
      exact ⟨_, by simp [me_fits_pack, r_runB, B_fits_pack, r_bCons, start0, r_eCall, e, e5, all_map, e2]; rfl⟩
    | false =>
      rw [hb] at e
      have e2 : packB (.tup xs) = false := by show (_ && _ && _) = _; rw [hb]; rfl
      exact ⟨_, by simp [me_fits_pack, r_runB, B_fits_pack, r_bCons, start0, r_eCall, e, e2]; rfl⟩
  · obtain ⟨o, e⟩ := tup_no (lo := 1) (hi := 8) (notup h ht)
    have e2 : packB d = false := by
      cases d <;> first | rfl | exact absurd ⟨_, rfl⟩ ht
    exact ⟨_, by simp [me_fits_pack, r_runB, B_fits_pack, r_bCons, start0, r_eCall, e, e2]; rfl⟩
theorem pack_ok2 {d : D} (h : d.sm = true) : Val m__law_is_pack [d] (.bl (packB d)) := by
  by_cases ht : ∃ xs, d = .tup xs
  · obtain ⟨xs, rfl⟩ := ht
    obtain ⟨hl, hm⟩ := sm_tup h
    have e5 : fLc [1] (iSeq (eVar 0)) (gNm 1) (tNot (tTru (eCall m__law_is_tablet (aCons (eVar 1) aNil)))) (eVar 1) [some (.tup xs), none] = .ok (.lst (xs.filter fun d => !tabB d), [some (.tup xs), none]) := by
      have := fLc_flt1 (i := 1) (ρ := [some (.tup xs), none]) (fi := iSeq (eVar 0)) (cnd := tNot (tTru (eCall m__law_is_tablet (aCons (eVar 1) aNil)))) (elt := eVar 1) xs (fun d => d) (fun d => !tabB d) (fun d => d) (by rw [List.map_id']; simp) (by omega) (fun d hd => ?_) fun d hd _ => ?_
      · rw [List.map_id'] at this
        exact this
      · obtain ⟨o, e⟩ := tab_ok2 (hm d hd)
        simp [w1, wipeE, r_eCall, e]
      · simp [w1, wipeE]
    have e7 := eq_nilL _ (lay_filter (p := fun d => !tabB d) hm)
    rw [none_all] at e7
    by_cases g1 : (1 : Int) ≤ xs.length
    · by_cases g2 : (xs.length : Int) ≤ 8
      · have e2 : packB (.tup xs) = xs.all tabB := by
          show (decide _ && decide _ && _) = _
          rw [decide_eq_true (by omega), decide_eq_true (by omega)]
          rfl
        exact ⟨_, by simp [me__law_is_pack, r_runB, B__law_is_pack, r_bCons, start0, is2s, is3t, g1, g2, e5, e7, e2]; rfl⟩
      · have e2 : packB (.tup xs) = false := by
          show (decide _ && decide (xs.length ≤ 8) && _) = _
          rw [decide_eq_false (p := xs.length ≤ 8) (by omega)]
          simp
        exact ⟨_, by simp [me__law_is_pack, r_runB, B__law_is_pack, r_bCons, start0, is2s, is3t, g1, g2, e2]; rfl⟩
    · have e2 : packB (.tup xs) = false := by
        show (decide (1 ≤ xs.length) && decide _ && _) = _
        rw [decide_eq_false (p := 1 ≤ xs.length) (by omega)]
        simp
      exact ⟨_, by simp [me__law_is_pack, r_runB, B__law_is_pack, r_bCons, start0, is2s, is3t, g1, e2]; rfl⟩
  · have e := notup h ht
    have e2 : packB d = false := by
      cases d <;> first | rfl | exact absurd ⟨_, rfl⟩ ht
    exact ⟨_, by simp [me__law_is_pack, r_runB, B__law_is_pack, r_bCons, start0, e, e2]; rfl⟩
theorem is_tablet_ok {d : D} (h : d.sm = true) : Val m_is_tablet [d] (.bl (tabB d)) := by
  obtain ⟨o, e⟩ := tab_ok1 h
  exact ⟨_, by simp [me_is_tablet, r_runB, B_is_tablet, r_bCons, start0, r_eCall, e]; rfl⟩
theorem is_pack_ok {d : D} (h : d.sm = true) : Val m_is_pack [d] (.bl (packB d)) := by
  obtain ⟨o, e⟩ := pack_ok1 h
  exact ⟨_, by simp [me_is_pack, r_runB, B_is_pack, r_bCons, start0, r_eCall, e]; rfl⟩
end LK80

namespace LK80
open PySem PySem.Spec L2 SX EV
/-! ### like -/
def sortN : D → Int
  | .non => 0
  | .bl _ => 1
  | .int _ => 2
  | .str _ => 3
  | .tup _ => 4
  | .lst _ => 5
  | _ => 6
theorem sort_ok {d : D} (h : d.lay = true) : Val m__law_sort [d] (.int (sortN d)) := by
  cases d <;> first | (exact ⟨_, by simp [me__law_sort, r_runB, B__law_sort, r_bCons, start0, isD, dIs, isNon, sortN]; rfl⟩) | cases h
theorem eq_self (d : D) (h : d.lay = true) (h2 : ¬ ∃ xs, d = .tup xs) (h3 : ¬ ∃ xs, d = .lst xs) : dEq d d = some (.bl true) := by
  cases d with
  | non => rfl
  | bl b => cases b <;> rfl
  | int i =>
    show some (D.bl (i == i)) = _
    rw [beq_self_eq_true]
  | str s =>
    show some (D.bl (s == s)) = _
    rw [beq_self_eq_true]
  | tup xs => exact absurd ⟨_, rfl⟩ h2
  | lst xs => exact absurd ⟨_, rfl⟩ h3
  | _ => cases h
theorem dep_mem : ∀ {ds : List D} {d : D}, d ∈ ds → d.dep ≤ depL ds
  | x :: xs, d, h => by
    show d.dep ≤ max x.dep (depL xs)
    rcases List.mem_cons.mp h with rfl | h
    · exact Nat.le_max_left _ _
    · exact Nat.le_trans (dep_mem h) (Nat.le_max_right _ _)
theorem in45 {k : Int} : dIn id (.int k) (.tup [.int 4, .int 5]) = some (.bl ((4 == k) || (5 == k))) := by
  show some (D.bl (id ((4 == k) || ((5 == k) || false)))) = _
  rw [Bool.or_false]
  rfl
theorem like_seq (n : Nat) (ih : ∀ d : D, d.sm = true → d.dep < n → Val (mr__law_like n) [d, d] (.bl true)) {xs : List D} {d : D} (hd : d = .tup xs ∨ d = .lst xs) (hs : d.sm = true) (hl : d.dep < n + 1) : Val (mr__law_like (n + 1)) [d, d] (.bl true) := by
  have hx : xs.length ≤ 1000 ∧ (∀ x, x ∈ xs → x.sm = true) ∧ depL xs < n := by
    rcases hd with rfl | rfl
    · obtain ⟨a, b⟩ := sm_tup hs
      have : depL xs + 1 < n + 1 := hl
      exact ⟨a, b, by omega⟩
    · have h' : (decide (xs.length ≤ 1000) && smL xs) = true := hs
      rw [Bool.and_eq_true, decide_eq_true_eq] at h'
      have : depL xs + 1 < n + 1 := hl
      exact ⟨h'.1, smL_mem h'.2, by omega⟩
  obtain ⟨h1, h2, h3⟩ := hx
  obtain ⟨o, eo⟩ := sort_ok (sm_lay d hs)
  have hz : zipL xs xs = xs.map fun t => .tup [t, t] := by
    have := zipL_map xs (fun t => t) (fun t => t)
    rw [List.map_id'] at this
    exact this
  have e1 : ∀ s, fLc [3, 4] (iRng zip2 (aCons (eVar 0) (aCons (eVar 1) aNil))) (g2 3 4) (tNot (tTru (eCall (mr__law_like n) (aCons (eVar 3) (aCons (eVar 4) aNil))))) (eC (.int 1)) [some d, some d, s, none, none] = .ok (.lst [], [some d, some d, s, none, none]) := fun s => by
    have z2 : zip2 [d, d] = some (xs.map fun t => .tup [t, t]) := by
      rw [← hz]
      rcases hd with rfl | rfl <;> rfl
    have := fLc_flt2 (i := 3) (j := 4) (ρ := [some d, some d, s, none, none]) (fi := iRng zip2 (aCons (eVar 0) (aCons (eVar 1) aNil))) (cnd := tNot (tTru (eCall (mr__law_like n) (aCons (eVar 3) (aCons (eVar 4) aNil))))) (elt := eC (.int 1)) xs (fun t => t) (fun t => t) (fun _ => false) (fun _ => .int 1)
      (by simp [z2]) (by omega) (fun t ht => ?_) fun t ht hf => nomatch hf
    · rw [List.filter_eq_nil_iff.mpr (by simp)] at this
      exact this
    · obtain ⟨o, e⟩ := ih t (h2 t ht) (Nat.lt_of_le_of_lt (dep_mem ht) h3)
      simp [w2, wipeE, r_eCall, e]
  have e2 := eq_nilL [] rfl
  have hg2 : g2 3 4 = gTupD 2 (gsCons (gNm 3) (gsCons (gNm 4) gsNil)) := rfl
  rw [hg2] at e1
  have len : bLen [d] = some (.int xs.length) := by rcases hd with rfl | rfl <;> rfl
  have sn : sortN d = 4 ∨ sortN d = 5 := by
    rcases hd with rfl | rfl
    · exact .inl rfl
    · exact .inr rfl
  rcases sn with sn | sn
  · rw [sn] at eo
    exact ⟨_, by simp [mer__law_like, r_runB, B__law_like, r_bCons, start0, r_eCall, eo, neI, eqI, in45, len, e1, e2]; rfl⟩
  · rw [sn] at eo
    exact ⟨_, by simp [mer__law_like, r_runB, B__law_like, r_bCons, start0, r_eCall, eo, neI, eqI, in45, len, e1, e2]; rfl⟩
theorem like_refl : ∀ (n : Nat) (d : D), d.sm = true → d.dep < n → Val (mr__law_like n) [d, d] (.bl true)
  | 0, _, _, h => absurd h (Nat.not_lt_zero _)
  | n + 1, d, hs, hl => by
    by_cases ht : ∃ xs, d = .tup xs
    · obtain ⟨xs, e⟩ := ht
      exact like_seq n (like_refl n) (.inl e) hs hl
    · by_cases hl2 : ∃ xs, d = .lst xs
      · obtain ⟨xs, e⟩ := hl2
        exact like_seq n (like_refl n) (.inr e) hs hl
      · have es := eq_self d (sm_lay d hs) ht hl2
        obtain ⟨o, eo⟩ := sort_ok (sm_lay d hs)
        have sn : sortN d = 0 ∨ sortN d = 1 ∨ sortN d = 2 ∨ sortN d = 3 := by
          cases d <;> first | (exact .inl rfl) | (exact .inr (.inl rfl)) | (exact .inr (.inr (.inl rfl))) | (exact .inr (.inr (.inr rfl))) | (exact absurd ⟨_, rfl⟩ ht) | (exact absurd ⟨_, rfl⟩ hl2) | cases hs
        rcases sn with sn | sn | sn | sn <;> rw [sn] at eo <;> exact ⟨_, by simp [mer__law_like, r_runB, B__law_like, r_bCons, start0, r_eCall, eo, neI, eqI, in45, es]; rfl⟩
theorem like_ok {d : D} (hs : d.sm = true) (hl : d.dep < 8) : Val m__law_like [d, d] (.bl true) := like_refl 8 d hs hl
end LK80

namespace LK80
open PySem PySem.Spec L2 SX EV
/-! ### turns -/
theorem need_ok : Val m_need [.bl true] .non := ⟨_, by simp [me_need, r_runB, B_need, r_bCons, start0]; rfl⟩
def isTurnD : D → Bool
  | .int i => decide (-1 ≤ i) && decide (i ≤ 1) && !(i == 0)
  | _ => false
theorem is0i (i : Int) : isD 0 (.int i) = some true := rfl
theorem is1i (i : Int) : isD 1 (.int i) = some false := rfl
theorem whole_int (i lo hi : Int) : Val m_is_whole [.int i, .int lo, .int hi] (.bl (decide (lo ≤ i) && decide (i ≤ hi))) := by
  by_cases h : lo ≤ i
  · exact ⟨_, by simp [me_is_whole, r_runB, B_is_whole, r_bCons, start0, is0i, is1i, h]; rfl⟩
  · exact ⟨_, by simp [me_is_whole, r_runB, B_is_whole, r_bCons, start0, is0i, is1i, h]; rfl⟩
theorem whole_no {d : D} (hd : d.lay = true) (h : ¬ ∃ i, d = .int i) (lo hi : Int) : Val m_is_whole [d, .int lo, .int hi] (.bl false) := by
  cases d <;> first | (exact ⟨_, by simp [me_is_whole, r_runB, B_is_whole, r_bCons, start0, isD]; rfl⟩) | exact absurd ⟨_, rfl⟩ h | cases hd
theorem turn_ok {d : D} (hd : d.lay = true) : Val m_is_turn [d] (.bl (isTurnD d)) := by
  by_cases h : ∃ i, d = .int i
  · obtain ⟨i, rfl⟩ := h
    obtain ⟨o, e⟩ := whole_int i (-1) 1
    cases hb : (decide (-1 ≤ i) && decide (i ≤ 1)) with
    | true =>
      rw [hb] at e
      have e2 : isTurnD (.int i) = !(i == 0) := by show (_ && _ && _) = _; rw [hb]; rfl
      exact ⟨_, by simp [me_is_turn, r_runB, B_is_turn, r_bCons, start0, r_eCall, e, neI, e2]; rfl⟩
    | false =>
      rw [hb] at e
      have e2 : isTurnD (.int i) = false := by show (_ && _ && _) = _; rw [hb]; rfl
      exact ⟨_, by simp [me_is_turn, r_runB, B_is_turn, r_bCons, start0, r_eCall, e, e2]; rfl⟩
  · obtain ⟨o, e⟩ := whole_no hd h (-1) 1
    have e2 : isTurnD d = false := by cases d <;> first | rfl | exact absurd ⟨_, rfl⟩ h
    exact ⟨_, by simp [me_is_turn, r_runB, B_is_turn, r_bCons, start0, r_eCall, e, e2]; rfl⟩
/-- turns: 1 and -1 -/
def TnI (ts : List Int) : Prop := ∀ t, t ∈ ts → t = 1 ∨ t = -1
abbrev dints (ts : List Int) : List D := ts.map D.int
end LK80

namespace LK80
open PySem PySem.Spec L2 SX EV
theorem turnB {t : Int} (h : t = 1 ∨ t = -1) : isTurnD (.int t) = true := by
  rcases h with rfl | rfl <;> rfl
theorem fits_turns_ok {ts : List Int} (h : TnI ts) (hl : ts.length ≤ 40) : Val m_fits_turns [.tup (dints ts)] (.bl true) := by
  obtain ⟨o, e⟩ := tup_of (xs := dints ts) (lo := 0) (hi := 40)
  have e1 : (decide ((0 : Int) ≤ (dints ts).length) && decide (((dints ts).length : Int) ≤ 40)) = true := by
    rw [List.length_map, decide_eq_true (by omega), decide_eq_true (by omega)]
    rfl
  rw [e1] at e
  have e5 : fLc [1] (iSeq (eVar 0)) (gNm 1) cYes (eCall m_is_turn (aCons (eVar 1) aNil)) [some (.tup (dints ts)), none] = .ok (.lst (ts.map fun t => .bl (isTurnD (.int t))), [some (.tup (dints ts)), none]) := by
    refine fLc_map1 ts D.int _ (by simp [dints]) (by omega) fun t ht => ?_
    obtain ⟨o, e⟩ := turn_ok (d := .int t) rfl
    simp [w1, wipeE, r_eCall, e]
  have e6 := all_map (fun t => isTurnD (.int t)) ts
  have e7 : ts.all (fun t => isTurnD (.int t)) = true := List.all_eq_true.mpr fun t ht => turnB (h t ht)
  rw [e7] at e6
  exact ⟨_, by simp [me_fits_turns, r_runB, B_fits_turns, r_bCons, start0, r_eCall, e, e5, e6]; rfl⟩
/-- the holes that show, and the last top -/
def hol : Int → List Int → List Int
  | _, [] => []
  | t, u :: us => if 0 < u then t :: hol ((t + 1) % 4) us else (t - 1) % 4 :: hol ((t - 1) % 4) us
def htop : Int → List Int → Int
  | t, [] => t
  | t, u :: us => if 0 < u then htop ((t + 1) % 4) us else htop ((t - 1) % 4) us
theorem shows_up (t u : Int) (h : 0 < u) : Val m_shows [.int t, .int u] (.tup [.int t, .int ((t + 1) % 4)]) := ⟨_, by simp [me_shows, r_runB, B_shows, r_bCons, start0, h]; rfl⟩
theorem shows_dn (t u : Int) (h : ¬ 0 < u) : Val m_shows [.int t, .int u] (.tup [.int ((t - 1) % 4), .int ((t - 1) % 4)]) := ⟨_, by simp [me_shows, r_runB, B_shows, r_bCons, start0, h]; rfl⟩
def hoB : SS := bCons (sAsgN (gTupD 2 (gsCons (gNm 4) (gsCons (gNm 1) gsNil))) (eCall m_shows (aCons (eVar 1) (aCons (eVar 3) aNil)))) (bCons (sExpr (eApp (ePlc 2) (eVar 4))) bNil)
theorem ho_loop (T : D) : ∀ (us : List Int) (t : Int) (acc : List D) (x y : Option D), acc.length + us.length ≤ 1000 → ∃ x' y', forL (gNm 3) hoB (dints us) [some T, some (.int t), some (.lst acc), x, y] = .ok (.nx, [some T, some (.int (htop t us)), some (.lst (acc ++ dints (hol t us))), x', y'])
  | [], t, acc, x, y, _ => ⟨x, y, by simp [dints, forL_nil, hol, htop]⟩
  | u :: us, t, acc, x, y, hl => by
    rw [List.length_cons] at hl
    have la : acc.length < 16777216 := by omega
    by_cases h : 0 < u
    · obtain ⟨o, e⟩ := shows_up t u h
      obtain ⟨x', y', e2⟩ := ho_loop T us ((t + 1) % 4) (acc ++ [.int t]) (some (.int u)) (some (.int t)) (by rw [List.length_append]; simp; omega)
      refine ⟨x', y', ?_⟩
      have := forL_next (g := gNm 3) (B := hoB) (d := .int u) (ds := dints us) (ρ := [some T, some (.int t), some (.lst acc), x, y]) (ρ1 := [some T, some (.int t), some (.lst acc), some (.int u), y]) (ρ2 := [some T, some (.int ((t + 1) % 4)), some (.lst (acc ++ [.int t])), some (.int u), some (.int t)]) rfl (by simp [hoB, r_bCons, r_eCall, e, gTupD, gsCons, r_eApp, r_addTo la])
      show forL (gNm 3) hoB (.int u :: dints us) _ = _
      rw [this, e2]
      simp [hol, htop, h, dints]
    · obtain ⟨o, e⟩ := shows_dn t u h
      obtain ⟨x', y', e2⟩ := ho_loop T us ((t - 1) % 4) (acc ++ [.int ((t - 1) % 4)]) (some (.int u)) (some (.int ((t - 1) % 4))) (by rw [List.length_append]; simp; omega)
      refine ⟨x', y', ?_⟩
      have := forL_next (g := gNm 3) (B := hoB) (d := .int u) (ds := dints us) (ρ := [some T, some (.int t), some (.lst acc), x, y]) (ρ1 := [some T, some (.int t), some (.lst acc), some (.int u), y]) (ρ2 := [some T, some (.int ((t - 1) % 4)), some (.lst (acc ++ [.int ((t - 1) % 4)])), some (.int u), some (.int ((t - 1) % 4))]) rfl (by simp [hoB, r_bCons, r_eCall, e, gTupD, gsCons, r_eApp, r_addTo la])
      show forL (gNm 3) hoB (.int u :: dints us) _ = _
      rw [this, e2]
      simp [hol, htop, h, dints]
theorem holes_ok {ts : List Int} (hl : ts.length ≤ 1000) : Val m_holes_of [.tup (dints ts)] (.tup [.lst (dints (hol 0 ts)), .int (htop 0 ts)]) := by
  obtain ⟨x, y, e⟩ := ho_loop (.tup (dints ts)) ts 0 [] none none (by simpa using hl)
  have eB : B_holes_of = (bCons (sPar [(1, false), (2, true)] (qVal (eC (.int 0)) (qNew (fLst aNil) qNil))) (bCons (sFor (iSeq (eVar 0)) (gNm 3) hoB) (bFrz 2 (bCons (sRet (eTup (aCons (eVar 2) (aCons (eVar 1) aNil)))) bNil)))) := rfl
  exact ⟨_, by simp [me_holes_of, r_runB, eB, r_bCons, start0, e, isLive]; rfl⟩
end LK80

namespace LK80
open PySem PySem.Spec L2 SX EV
/-! ### the law's own holes -/
theorem quad (a : Int) : a - a / 4 * 4 = a % 4 := by omega
def lmin (a u : Int) : Int := if a + u < a then a + u else a
def lhB : SS := bCons (sSet 4 (eBin dAdd (eVar 1) (eVar 3))) (bCons (sExpr (eApp (ePlc 2) (eBin dSub (eBlt bMin2 (aCons (eVar 1) (aCons (eVar 4) aNil))) (eBin dMul (eBin dDiv (eBlt bMin2 (aCons (eVar 1) (aCons (eVar 4) aNil))) (eC (.int 4))) (eC (.int 4)))))) (bCons (sSet 1 (eVar 4)) bNil))
theorem cd4 (i : Int) : L2.CDiv i 4 := ⟨by decide, by decide⟩
theorem cm4 (i : Int) : L2.CMul i 4 := .inr ⟨by decide, by decide⟩
theorem lh_loop (T : D) : ∀ (us : List Int) (a : Int) (acc : List D) (x y : Option D), TnI us → acc.length + us.length ≤ 1000 → ∃ a' x' y', a' % 4 = htop (a % 4) us ∧ forL (gNm 3) lhB (dints us) [some T, some (.int a), some (.lst acc), x, y] = .ok (.nx, [some T, some (.int a'), some (.lst (acc ++ dints (hol (a % 4) us))), x', y'])
  | [], a, acc, x, y, _, _ => ⟨a, x, y, rfl, by simp [dints, forL_nil, hol]⟩
  | u :: us, a, acc, x, y, ht, hl => by
    rw [List.length_cons] at hl
    have la : acc.length < 16777216 := by omega
    have hu := ht u List.mem_cons_self
    obtain ⟨a', x', y', e1, e2⟩ := lh_loop T us (a + u) (acc ++ [.int (lmin a u % 4)]) (some (.int u)) (some (.int (a + u))) (fun t h => ht t (List.mem_cons_of_mem _ h)) (by rw [List.length_append]; simp; omega)
    have hs : hol (a % 4) (u :: us) = lmin a u % 4 :: hol ((a + u) % 4) us ∧ htop (a % 4) (u :: us) = htop ((a + u) % 4) us := by
      rcases hu with rfl | rfl
      · have m : lmin a 1 = a := if_neg (by omega)
        have q : (a % 4 + 1) % 4 = (a + 1) % 4 := by omega
        rw [m]
        simp [hol, htop, q]
      · have m : lmin a (-1) = a + -1 := if_pos (by omega)
        have q : (a % 4 - 1) % 4 = (a + -1) % 4 := by omega
        rw [m]
        simp [hol, htop, q]
    refine ⟨a', x', y', by rw [e1, hs.2], ?_⟩
    have mm : bMin2 [.int a, .int (a + u)] = some (.int (lmin a u)) := rfl
    have qq := quad (lmin a u)
    have := forL_next (g := gNm 3) (B := lhB) (d := .int u) (ds := dints us) (ρ := [some T, some (.int a), some (.lst acc), x, y]) (ρ1 := [some T, some (.int a), some (.lst acc), some (.int u), y]) (ρ2 := [some T, some (.int (a + u)), some (.lst (acc ++ [.int (lmin a u % 4)])), some (.int u), some (.int (a + u))]) rfl
      (by simp only [lhB, r_bCons, r_sSet, r_eBin, r_eVar, r_gtS, r_gt0, r_ofSome, ok_bind, r_deref, r_addI, r_valOf, r_st0, r_stS, r_sExpr, r_eApp, r_ePlc, r_plcOf, r_seqLst, r_eBlt, r_aCons, r_aNil, r_rdAv, r_rdA0, Option.map_some, mm, r_divI (cd4 _), r_mulI (cm4 _), r_eC, r_subI, qq, r_addTo la, r_bNil])
    show forL (gNm 3) lhB (.int u :: dints us) _ = _
    rw [this, e2, hs.1]
    simp [dints]
theorem lholes_ok {ts : List Int} (h : TnI ts) (hl : ts.length ≤ 1000) : Val m__law_holes [.tup (dints ts)] (.tup [.lst (dints (hol 0 ts)), .int (htop 0 ts)]) := by
  obtain ⟨a, x, y, e1, e⟩ := lh_loop (.tup (dints ts)) ts 0 [] none none h (by simpa using hl)
  have eB : B__law_holes = (bCons (sPar [(1, false), (2, true)] (qVal (eC (.int 0)) (qNew (fLst aNil) qNil))) (bCons (sFor (iSeq (eVar 0)) (gNm 3) lhB) (bFrz 2 (bCons (sRet (eTup (aCons (eVar 2) (aCons (eBin dSub (eVar 1) (eBin dMul (eBin dDiv (eVar 1) (eC (.int 4))) (eC (.int 4)))) aNil)))) bNil)))) := rfl
  have z : (0 : Int) % 4 = 0 := rfl
  rw [z] at e e1
  have qq := quad a
  rw [e1] at qq
  exact ⟨_, by simp [me__law_holes, r_runB, eB, r_bCons, start0, e, isLive, r_divI (cd4 _), r_mulI (cm4 _), qq]; rfl⟩
/-! ### a column, the top, the twist, the changes -/
theorem hol_bound : ∀ (us : List Int) (t : Int), 0 ≤ t → t < 4 → ∀ x, x ∈ hol t us → 0 ≤ x ∧ x < 4
  | [], _, _, _, x, h => by simp [hol] at h
  | u :: us, t, h0, h1, x, h => by
    unfold hol at h
    split at h
    · rcases List.mem_cons.mp h with rfl | h
      · exact ⟨h0, h1⟩
      · exact hol_bound us _ (by omega) (by omega) x h
    · rcases List.mem_cons.mp h with rfl | h
      · omega
      · exact hol_bound us _ (by omega) (by omega) x h
theorem hol_len : ∀ (us : List Int) (t : Int), (hol t us).length = us.length
  | [], _ => rfl
  | u :: us, t => by
    unfold hol
    split <;> simp [hol_len us]
end LK80

namespace LK80
open PySem PySem.Spec L2 SX EV
def tab (s : List Nat) (l : List (List Nat)) : D := .tup [.str s, .tup (l.map D.str)]
theorem sm_strs : ∀ {l : List (List Nat)}, NmsI l → smL (l.map D.str) = true
  | [], _ => rfl
  | x :: l, h => by
    have hx := h x List.mem_cons_self
    have : x.length ≤ 12 := by
      unfold nameB at hx
      rw [Bool.and_eq_true, Bool.and_eq_true, Bool.and_eq_true, decide_eq_true_eq, decide_eq_true_eq] at hx
      exact hx.1.1.2
    show (decide (x.length ≤ 1000) && smL (l.map D.str)) = true
    rw [decide_eq_true (by omega), sm_strs fun y hy => h y (List.mem_cons_of_mem _ hy)]
    rfl
structure TabP (s : List Nat) (l : List (List Nat)) : Prop where
  side : s = [115] ∨ s = [122]
  len : l.length = 4
  nms : NmsI l
theorem TabP.sm {s : List Nat} {l : List (List Nat)} (h : TabP s l) : (tab s l).sm = true := by
  show (decide ([D.str s, D.tup (l.map D.str)].length ≤ 1000) && (decide (s.length ≤ 1000) && ((decide ((l.map D.str).length ≤ 1000) && smL (l.map D.str)) && true))) = true
  rw [sm_strs h.nms, decide_eq_true (p := (l.map D.str).length ≤ 1000) (by rw [List.length_map, h.len]; omega), decide_eq_true (p := s.length ≤ 1000) (by rcases h.side with rfl | rfl <;> decide)]
  rfl
theorem TabP.ok {s : List Nat} {l : List (List Nat)} (h : TabP s l) : tabB (tab s l) = true := by
  show (sideB s && decide ((l.map D.str).length = 4) && (l.map D.str).all isNameD) = true
  rw [decide_eq_true (by rw [List.length_map]; exact h.len)]
  have e1 : sideB s = true := by rcases h.side with rfl | rfl <;> decide
  have e2 : (l.map D.str).all isNameD = true := by
    rw [List.all_map, List.all_eq_true]
    exact fun x hx => h.nms x hx
  rw [e1, e2]
  rfl
def nmAt (l : List (List Nat)) (h : Int) : List Nat := l.getD h.toNat []
theorem at_nm {l : List (List Nat)} {h : Int} (h0 : 0 ≤ h) (h1 : h < l.length) : L2.atI (l.map D.str) h = some (.str (nmAt l h)) := by
  rw [atI_map]
  unfold L2.atI nmAt
  rw [ixN_of h0 h1]
  show (l[h.toNat]?).map D.str = _
  have : h.toNat < l.length := by omega
  rw [List.getElem?_eq_getElem this, List.getD_eq_getElem?_getD, List.getElem?_eq_getElem this]
  rfl
def col (l : List (List Nat)) (ts : List Int) : List (List Nat) := (hol 0 ts).map (nmAt l)
theorem col_ok {s : List Nat} {l : List (List Nat)} {ts : List Int} (h : TabP s l) (ht : TnI ts) (hl : ts.length ≤ 40) : Val m_column_of [tab s l, .tup (dints ts)] (.tup ((col l ts).map D.str)) := by
  obtain ⟨o1, e1⟩ := tab_ok1 h.sm
  rw [h.ok] at e1
  obtain ⟨o2, e2⟩ := fits_turns_ok ht hl
  obtain ⟨o3, e3⟩ := holes_ok (ts := ts) (by omega)
  obtain ⟨o4, e4⟩ := need_ok
  have e5 : fLc [2] (iSeq (eBin dIx (eCall m_holes_of (aCons (eVar 1) aNil)) (eC (.int 0)))) (gNm 2) cYes (eBin dIx (eBin dIx (eVar 0) (eC (.int 1))) (eVar 2)) [some (tab s l), some (.tup (dints ts)), none] = .ok (.lst ((hol 0 ts).map fun h => .str (nmAt l h)), [some (tab s l), some (.tup (dints ts)), none]) := by
    refine fLc_map1 (hol 0 ts) D.int _ (by simp [r_eCall, e3, at0, dints]) (by rw [hol_len]; omega) fun x hx => ?_
    obtain ⟨b0, b1⟩ := hol_bound ts 0 (by decide) (by decide) x hx
    have := at_nm (l := l) b0 (by rw [h.len]; exact b1)
    simp [w1, wipeE, tab, at1, this]
  exact ⟨_, by simp [me_column_of, r_runB, B_column_of, r_bCons, start0, r_eCall, e1, e2, e4, e5, col]; rfl⟩
theorem top_ok {ts : List Int} (ht : TnI ts) (hl : ts.length ≤ 40) : Val m_top_of [.tup (dints ts)] (.int (htop 0 ts)) := by
  obtain ⟨o2, e2⟩ := fits_turns_ok ht hl
  obtain ⟨o3, e3⟩ := holes_ok (ts := ts) (by omega)
  obtain ⟨o4, e4⟩ := need_ok
  exact ⟨_, by simp [me_top_of, r_runB, B_top_of, r_bCons, start0, r_eCall, e2, e4, e3, at1]; rfl⟩
theorem dInts_map : ∀ l : List Int, EV.dInts (l.map D.int) = some l
  | [] => rfl
  | x :: l => by
    show (EV.dInts (l.map D.int)).map (x :: ·) = _
    rw [dInts_map l]
    rfl
theorem sum_tup (ts : List Int) : bSumA [.tup (dints ts)] = some (.int ts.sum) := by
  show Option.or none ((EV.dInts (dints ts)).map fun ns => D.int ns.sum) = _
  rw [dInts_map]
  rfl
theorem sum_lst (ts : List Int) : bSumA [.lst (dints ts)] = some (.int ts.sum) := by
  show Option.or ((EV.dInts (dints ts)).map fun ns => D.int ns.sum) _ = _
  rw [dInts_map]
  rfl
theorem twist_ok {ts : List Int} (ht : TnI ts) (hl : ts.length ≤ 40) : Val m_twist_of [.tup (dints ts)] (.int ts.sum) := by
  obtain ⟨o2, e2⟩ := fits_turns_ok ht hl
  obtain ⟨o4, e4⟩ := need_ok
  exact ⟨_, by simp [me_twist_of, r_runB, B_twist_of, r_bCons, start0, r_eCall, e2, e4, sum_tup]; rfl⟩
end LK80

namespace LK80
open PySem PySem.Spec L2 SX EV
/-! ### changes -/
theorem zip_ints : ∀ (a b : List Int), zipL (dints a) (dints b) = (a.zip b).map fun p => .tup [.int p.1, .int p.2]
  | [], b => by cases b <;> rfl
  | _ :: _, [] => rfl
  | x :: a, y :: b => by
    show D.tup [.int x, .int y] :: zipL (dints a) (dints b) = _
    rw [zip_ints a b]
    rfl
theorem cut1 {α : Type} (xs : List α) : cut xs (some 1) none = xs.drop 1 := by
  unfold cut
  have h1 : HT.sIx xs.length 0 (some 1) = min 1 xs.length := HT.sIx_nat xs.length 0 1
  have h2 : HT.sIx xs.length xs.length none = xs.length := rfl
  rw [h1, h2]
  by_cases h : 1 ≤ xs.length
  · rw [Nat.min_eq_left h]
    exact List.take_of_length_le (by rw [List.length_drop]; omega)
  · have : xs = [] := List.eq_nil_of_length_eq_zero (by omega)
    subst this
    rfl
def chg (ts : List Int) : Nat := ((ts.zip (ts.drop 1)).filter fun p => !(p.1 == p.2)).length
theorem zip2_tail (ts : List Int) : zip2 [.tup (dints ts), .tup (cut (dints ts) (some 1) none)] = some ((ts.zip (ts.drop 1)).map fun p => .tup [.int p.1, .int p.2]) := by
  rw [cut1, ← zip_ints]
  show some (zipL (dints ts) ((ts.map D.int).drop 1)) = some (zipL (dints ts) ((ts.drop 1).map D.int))
  rw [← List.map_drop]
theorem zip_le (ts : List Int) : (ts.zip (ts.drop 1)).length ≤ ts.length := by
  rw [List.length_zip]
  omega
theorem chg_in {ts : List Int} (hl : ts.length ≤ 1000) : Val m_changes_in [.tup (dints ts)] (.int (chg ts)) := by
  have z := zip2_tail ts
  have zl := zip_le ts
  have e5 : fLc [1, 2] (iRng zip2 (aCons (eVar 0) (aCons (eSl (eVar 0) (pSome (eC (.int 1))) pNone) aNil))) (g2 1 2) (tB (eBin dNe (eVar 1) (eVar 2))) (eC (.int 1)) [some (.tup (dints ts)), none, none] = .ok (.lst (((ts.zip (ts.drop 1)).filter fun p => !(p.1 == p.2)).map fun _ => .int 1), [some (.tup (dints ts)), none, none]) := by
    refine fLc_flt2 (i := 1) (j := 2) (ts.zip (ts.drop 1)) (fun p => .int p.1) (fun p => .int p.2) _ _ (by simp [z]) (by omega) (fun p hp => ?_) fun p hp _ => ?_
    · simp [w2, wipeE, neI]
    · simp [w2, wipeE]
  have hg2 : g2 1 2 = gTupD 2 (gsCons (gNm 1) (gsCons (gNm 2) gsNil)) := rfl
  rw [hg2] at e5
  exact ⟨_, by simp [me_changes_in, r_runB, B_changes_in, r_bCons, start0, e5, chg]; rfl⟩
theorem chg_ok {ts : List Int} (ht : TnI ts) (hl : ts.length ≤ 40) : Val m_changes_of [.tup (dints ts)] (.int (chg ts)) := by
  obtain ⟨o2, e2⟩ := fits_turns_ok ht hl
  obtain ⟨o4, e4⟩ := need_ok
  obtain ⟨o5, e5⟩ := chg_in (ts := ts) (by omega)
  exact ⟨_, by simp [me_changes_of, r_runB, B_changes_of, r_bCons, start0, r_eCall, e2, e4, e5]; rfl⟩
/-- the law's count of changes -/
theorem chg_law {ts : List Int} (ht : TnI ts) : ((ts.zip (ts.drop 1)).filter fun p => p.1 + p.2 == 0).length = chg ts := by
  unfold chg
  congr 1
  refine List.filter_congr fun p hp => ?_
  have h1 := ht p.1 (List.of_mem_zip hp).1
  have h2 := ht p.2 (List.mem_of_mem_drop (List.of_mem_zip hp).2)
  rcases h1 with h1 | h1 <;> rcases h2 with h2 | h2 <;> rw [h1, h2] <;> rfl
end LK80

namespace LK80
open PySem PySem.Spec L2 SX EV
/-! ### the longest float -/
def mx (a b : Int) : Int := if b > a then b else a
theorem r_mx (a b : Int) : bMax2 [.int a, .int b] = some (.int (mx a b)) := rfl
def lead (x : Int) : List Int → Int
  | [] => 0
  | y :: ys => if y = x then 1 + lead x ys else 0
theorem lead_pos (x : Int) : ∀ ys, 0 ≤ lead x ys ∧ lead x ys ≤ ys.length
  | [] => ⟨Int.le_refl _, Int.le_refl _⟩
  | y :: ys => by
    have := lead_pos x ys
    unfold lead
    rw [List.length_cons]
    split <;> omega
def lf : List Int → Int
  | [] => 0
  | y :: ys => mx (1 + lead y ys) (lf ys)
def flo : Int → Int → Int → List Int → Int
  | b, _, _, [] => b
  | b, h, x, y :: ys => if y = x then flo (mx b (h + 1)) (h + 1) x ys else flo (mx b 1) 1 y ys
theorem flo_lf : ∀ (ys : List Int) (b h x : Int), 0 ≤ h → h ≤ b → flo b h x ys = mx (mx b (h + lead x ys)) (lf ys)
  | [], b, h, x, h0, h1 => by
    unfold flo lf lead mx
    split <;> split <;> omega
  | y :: ys, b, h, x, h0, h1 => by
    have lp := (lead_pos x ys).1
    have lq := (lead_pos y ys).1
    unfold flo
    by_cases hx : y = x
    · subst hx
      rw [if_pos rfl, flo_lf ys _ _ y (by omega) (by unfold mx; split <;> omega)]
      have e : lead y (y :: ys) = 1 + lead y ys := if_pos rfl
      have e2 : lf (y :: ys) = mx (1 + lead y ys) (lf ys) := rfl
      rw [e, e2]
      generalize lead y ys = l at *
      generalize lf ys = f
      unfold mx
      repeat' split
      all_goals omega
    · rw [if_neg hx, flo_lf ys _ _ y (by omega) (by unfold mx; split <;> omega)]
      have e : lead x (y :: ys) = 0 := if_neg hx
      have e2 : lf (y :: ys) = mx (1 + lead y ys) (lf ys) := rfl
      rw [e, e2]
      generalize lead y ys = l at *
      generalize lf ys = f
      unfold mx
      repeat' split
      all_goals omega
theorem flo_nat (y : Int) (ys : List Int) : flo (mx 0 1) 1 y ys = lf (y :: ys) := by
  have lp := (lead_pos y ys).1
  rw [flo_lf ys _ _ y (by omega) (by unfold mx; omega)]
  show _ = mx (1 + lead y ys) (lf ys)
  generalize lead y ys = l at *
  generalize lf ys = f
  unfold mx
  repeat' split
  all_goals omega
/-- the program's loop -/
def flB : SS := bCons (sPar [(2, false), (3, false)] (qVal (eIf (tB (eBin dEq (eVar 4) (eVar 3))) (eBin dAdd (eVar 2) (eC (.int 1))) (eC (.int 1))) (qVal (eVar 4) qNil))) (bCons (sSet 1 (eBlt bMax2 (aCons (eVar 1) (aCons (eVar 2) aNil)))) bNil)
theorem fl_loop (T : D) : ∀ (ys : List Int) (b h x : Int) (z : Option D), ∃ h' x' z', forL (gNm 4) flB (dints ys) [some T, some (.int b), some (.int h), some (.int x), z] = .ok (.nx, [some T, some (.int (flo b h x ys)), h', x', z'])
  | [], b, h, x, z => ⟨_, _, _, by simp [dints, forL_nil, flo]; exact ⟨rfl, rfl, rfl⟩⟩
  | y :: ys, b, h, x, z => by
    by_cases hx : y = x
    · subst hx
      obtain ⟨h', x', z', e⟩ := fl_loop T ys (mx b (h + 1)) (h + 1) y (some (.int y))
      refine ⟨h', x', z', ?_⟩
      have := forL_next (g := gNm 4) (B := flB) (d := .int y) (ds := dints ys) (ρ := [some T, some (.int b), some (.int h), some (.int y), z]) (ρ1 := [some T, some (.int b), some (.int h), some (.int y), some (.int y)]) (ρ2 := [some T, some (.int (mx b (h + 1))), some (.int (h + 1)), some (.int y), some (.int y)]) rfl (by simp [flB, r_bCons, eqI, r_mx]; rfl)
      show forL (gNm 4) flB (.int y :: dints ys) _ = _
      rw [this, e]
      simp [flo]
    · obtain ⟨h', x', z', e⟩ := fl_loop T ys (mx b 1) 1 y (some (.int y))
      refine ⟨h', x', z', ?_⟩
      have hb : (y == x) = false := by rw [beq_eq_false_iff_ne]; exact hx
      have := forL_next (g := gNm 4) (B := flB) (d := .int y) (ds := dints ys) (ρ := [some T, some (.int b), some (.int h), some (.int x), z]) (ρ1 := [some T, some (.int b), some (.int h), some (.int x), some (.int y)]) (ρ2 := [some T, some (.int (mx b 1)), some (.int 1), some (.int y), some (.int y)]) rfl (by simp [flB, r_bCons, eqI, hb, r_mx]; rfl)
      show forL (gNm 4) flB (.int y :: dints ys) _ = _
      rw [this, e]
      simp [flo, hx]
theorem eqIN (y : Int) : dEq (.int y) .non = some (.bl false) := rfl
theorem fl_all (T : D) (ys : List Int) : ∃ h' x' z', forL (gNm 4) flB (dints ys) [some T, some (.int 0), some (.int 0), some .non, none] = .ok (.nx, [some T, some (.int (lf ys)), h', x', z']) := by
  cases ys with
  | nil => exact ⟨_, _, _, by simp [dints, forL_nil, lf]; exact ⟨rfl, rfl, rfl⟩⟩
  | cons y ys =>
    obtain ⟨h', x', z', e⟩ := fl_loop T ys (mx 0 1) 1 y (some (.int y))
    refine ⟨h', x', z', ?_⟩
    have := forL_next (g := gNm 4) (B := flB) (d := .int y) (ds := dints ys) (ρ := [some T, some (.int 0), some (.int 0), some .non, none]) (ρ1 := [some T, some (.int 0), some (.int 0), some .non, some (.int y)]) (ρ2 := [some T, some (.int (mx 0 1)), some (.int 1), some (.int y), some (.int y)]) rfl (by simp [flB, r_bCons, eqIN, r_mx]; rfl)
    show forL (gNm 4) flB (.int y :: dints ys) _ = _
    rw [this, e, flo_nat]
theorem float_ok {ts : List Int} (ht : TnI ts) (hl : ts.length ≤ 40) : Val m_float_of [.tup (dints ts)] (.int (lf (hol 0 ts))) := by
  obtain ⟨o2, e2⟩ := fits_turns_ok ht hl
  obtain ⟨o3, e3⟩ := holes_ok (ts := ts) (by omega)
  obtain ⟨o4, e4⟩ := need_ok
  obtain ⟨h', x', z', e5⟩ := fl_all (.tup (dints ts)) (hol 0 ts)
  have eB : B_float_of = (bCons (sExpr (eCall m_need (aCons (eCall m_fits_turns (aCons (eVar 0) aNil)) aNil))) (bCons (sAsgN (gTupD 3 (gsCons (gNm 1) (gsCons (gNm 2) (gsCons (gNm 3) gsNil)))) (eTup (aCons (eC (.int 0)) (aCons (eC (.int 0)) (aCons (eC .non) aNil))))) (bCons (sFor (iSeq (eBin dIx (eCall m_holes_of (aCons (eVar 0) aNil)) (eC (.int 0)))) (gNm 4) flB) (bCons (sRet (eVar 1)) bNil)))) := rfl
  exact ⟨_, by simp [me_float_of, r_runB, eB, r_bCons, start0, r_eCall, e2, e3, e4, at0, gTupD, gsCons, e5]; rfl⟩
end LK80

namespace LK80
open PySem PySem.Spec L2 SX EV
/-! ### the law's float -/
theorem lead_cnt (x : Int) : ∀ s : List Int, (((List.range s.length).filter fun j => decide (s.take (j + 1) = List.replicate (j + 1) x)).length : Int) = lead x s
  | [] => rfl
  | y :: ys => by
    have ih := lead_cnt x ys
    rw [List.length_cons, List.range_succ_eq_map, List.filter_cons, List.filter_map]
    by_cases h : y = x
    · subst h
      have e0 : decide ((y :: ys).take (0 + 1) = List.replicate (0 + 1) y) = true := by simp
      have e1 : ((fun j => decide ((y :: ys).take (j + 1) = List.replicate (j + 1) y)) ∘ Nat.succ) = fun j => decide (ys.take (j + 1) = List.replicate (j + 1) y) := by
        funext j
        show decide (y :: ys.take (j + 1) = y :: List.replicate (j + 1) y) = _
        simp
      rw [if_pos e0, e1, List.length_cons, List.length_map]
      have e2 : lead y (y :: ys) = 1 + lead y ys := if_pos rfl
      rw [e2, ← ih]
      omega
    · have e0 : ¬ decide ((y :: ys).take (0 + 1) = List.replicate (0 + 1) x) = true := by simp [h]
      have e1 : ((fun j => decide ((y :: ys).take (j + 1) = List.replicate (j + 1) x)) ∘ Nat.succ) = fun j => false := by
        funext j
        show decide (y :: ys.take (j + 1) = x :: List.replicate (j + 1) x) = _
        simp [h]
      rw [if_neg e0, e1]
      have e2 : lead x (y :: ys) = 0 := if_neg h
      rw [e2]
      simp
theorem lay_ints : ∀ a : List Int, layL (dints a) = true
  | [] => rfl
  | x :: a => lay_ints a
theorem dep_ints : ∀ a : List Int, depL (dints a) = 0
  | [] => rfl
  | x :: a => by
    show max 0 (depL (dints a)) = 0
    rw [dep_ints a]
    rfl
theorem eqv_ints : ∀ a b : List Int, eqvL (dints a) (dints b) = decide (a = b)
  | [], [] => rfl
  | [], _ :: _ => rfl
  | _ :: _, [] => rfl
  | x :: a, y :: b => by
    show ((x == y) && eqvL (dints a) (dints b)) = _
    rw [eqv_ints a b, Bool.eq_iff_iff]
    simp
theorem eq_intsL (a b : List Int) : dEq (.lst (dints a)) (.lst (dints b)) = some (.bl (decide (a = b))) := by
  show (if (layL (dints a) && layL (dints b) && decide (min (depL (dints a) + 1) (depL (dints b) + 1) ≤ 64)) = true then some (D.bl (eqvL (dints a) (dints b))) else none) = _
  rw [lay_ints, lay_ints, dep_ints, dep_ints, eqv_ints]
  rfl
theorem rep_int (y : Int) {k : Int} (h0 : 0 ≤ k) (h1 : k ≤ 1000) : dMul (.lst [.int y]) (.int k) = some (.lst (dints (List.replicate k.toNat y))) := by
  have h : repOk k 1 = true := by
    unfold repOk
    rw [decide_eq_true (by omega), decide_eq_true (by omega)]
    rfl
  show (if repOk k 1 = true then some (D.lst (rpt k [D.int y])) else none) = _
  rw [if_pos h]
  simp [rpt, dints]
theorem cut_ab {α : Type} (xs : List α) {a b : Int} (h0 : 0 ≤ a) (h1 : a ≤ b) (h2 : b ≤ xs.length) : cut xs (some a) (some b) = (xs.drop a.toNat).take (b - a).toNat := by
  obtain ⟨m, rfl⟩ : ∃ m : Nat, a = m := ⟨a.toNat, by omega⟩
  obtain ⟨n, rfl⟩ : ∃ n : Nat, b = n := ⟨b.toNat, by omega⟩
  unfold cut
  have e1 : HT.sIx xs.length 0 (some (m : Int)) = min m xs.length := HT.sIx_nat xs.length 0 m
  have e2 : HT.sIx xs.length xs.length (some (n : Int)) = min n xs.length := HT.sIx_nat xs.length xs.length n
  rw [e1, e2, Nat.min_eq_left (by omega), Nat.min_eq_left (by omega)]
  congr 1
  omega
theorem r_rng2 {i j : Int} (h0 : 0 ≤ i) (h1 : i ≤ j) (h2 : j < 1000000) : rng2 [.int i, .int j] = some ((List.range (j - i).toNat).map fun (k : Nat) => D.int (i + k)) := by
  have a : rin i = true := by
    unfold rin
    rw [decide_eq_true (by omega), decide_eq_true (by omega)]
    rfl
  have b : rin j = true := by
    unfold rin
    rw [decide_eq_true (by omega), decide_eq_true (by omega)]
    rfl
  show (bif rin i && rin j then some (rng i 1 (j - i).toNat) else none) = _
  rw [a, b]
  simp [rng]
end LK80

namespace LK80
open PySem PySem.Spec L2 SX EV
def lfB : SS := bCons (sSet 3 (eBlt bLen (aCons (eF (fLc [4] (iRng rng2 (aCons (eVar 2) (aCons (eBlt bLen (aCons (eVar 0) aNil)) aNil))) (gNm 4) (tB (eBin dEq (eSl (eVar 0) (pSome (eVar 2)) (pSome (eBin dAdd (eVar 4) (eC (.int 1))))) (eBin dMul (eF (fLst (aCons (eBin dIx (eVar 0) (eVar 2)) aNil))) (eBin dSub (eBin dAdd (eVar 4) (eC (.int 1))) (eVar 2))))) (eC (.int 1)))) aNil))) (bCons (sSet 1 (eBlt bMax2 (aCons (eVar 1) (aCons (eVar 3) aNil)))) bNil)
theorem atI_ints (hs : List Int) (k : Nat) (h : k < hs.length) : L2.atI (dints hs) k = some (.int (hs.getD k 0)) := by
  unfold L2.atI
  rw [ixN_of (by omega) (by rw [List.length_map]; omega)]
  show (dints hs)[k]? = _
  rw [List.getElem?_map, List.getElem?_eq_getElem h, List.getD_eq_getElem?_getD, List.getElem?_eq_getElem h]
  rfl
theorem lf_in {hs : List Int} (hl : hs.length ≤ 900) (k : Nat) (hk : k < hs.length) (b m : Option D) : fLc [4] (iRng rng2 (aCons (eVar 2) (aCons (eBlt bLen (aCons (eVar 0) aNil)) aNil))) (gNm 4) (tB (eBin dEq (eSl (eVar 0) (pSome (eVar 2)) (pSome (eBin dAdd (eVar 4) (eC (.int 1))))) (eBin dMul (eF (fLst (aCons (eBin dIx (eVar 0) (eVar 2)) aNil))) (eBin dSub (eBin dAdd (eVar 4) (eC (.int 1))) (eVar 2))))) (eC (.int 1)) [some (.lst (dints hs)), b, some (.int k), m, none] = .ok (.lst (((List.range (hs.length - k)).filter fun j => decide ((hs.drop k).take (j + 1) = List.replicate (j + 1) (hs.getD k 0))).map fun _ => .int 1), [some (.lst (dints hs)), b, some (.int k), m, none]) := by
  have er := r_rng2 (i := (k : Int)) (j := hs.length) (by omega) (by omega) (by omega)
  have en : ((hs.length : Int) - k).toNat = hs.length - k := by omega
  rw [en] at er
  refine fLc_flt1 (List.range (hs.length - k)) (fun (j : Nat) => .int (k + j)) _ _ (by simp [er]) (by rw [List.length_range]; omega) (fun j hj => ?_) fun j hj _ => ?_
  · rw [List.mem_range] at hj
    have hn : (dints hs).length = hs.length := List.length_map ..
    have e1 := cut_ab (dints hs) (a := (k : Int)) (b := k + j + 1) (by omega) (by omega) (by rw [hn]; omega)
    have e2 := rep_int (hs.getD k 0) (k := (k : Int) + j + 1 - k) (by omega) (by omega)
    have e3 := atI_ints hs k hk
    have t1 : ((k : Int) + j + 1 - k).toNat = j + 1 := by omega
    have t2 : (k : Int).toNat = k := rfl
    rw [t1] at e1 e2
    rw [t2] at e1
    have e4 : ((dints hs).drop k).take (j + 1) = dints ((hs.drop k).take (j + 1)) := by simp [dints, List.map_drop, List.map_take]
    rw [e4] at e1
    have e5 := eq_intsL ((hs.drop k).take (j + 1)) (List.replicate (j + 1) (hs.getD k 0))
    generalize decide ((hs.drop k).take (j + 1) = List.replicate (j + 1) (hs.getD k 0)) = r at *
    generalize dints ((hs.drop k).take (j + 1)) = A at *
    generalize dints (List.replicate (j + 1) (hs.getD k 0)) = B at *
    generalize hs.getD k 0 = y at *
    generalize dints hs = ds at *
    simp [w1, wipeE, e1, e2, e3, e5]
  · simp [w1, wipeE]
theorem mx_assoc (a b c : Int) : mx (mx a b) c = mx a (mx b c) := by
  unfold mx
  repeat' split
  all_goals omega
theorem lf_pos : ∀ ys : List Int, 0 ≤ lf ys
  | [] => Int.le_refl _
  | y :: ys => by
    have := lf_pos ys
    have := (lead_pos y ys).1
    show 0 ≤ mx _ _
    unfold mx
    split <;> omega
theorem lf_loop {hs : List Int} (hl : hs.length ≤ 900) : ∀ (n k : Nat) (b : Int) (x m : Option D), 0 ≤ b → k + n = hs.length → ∃ x' m', forL (gNm 2) lfB ((List.range' k n).map fun (i : Nat) => D.int i) [some (.lst (dints hs)), some (.int b), x, m, none] = .ok (.nx, [some (.lst (dints hs)), some (.int (mx b (lf (hs.drop k)))), x', m', none])
  | 0, k, b, x, m, hb, h => by
    have e : hs.drop k = [] := List.drop_eq_nil_of_le (by omega)
    have e2 : mx b (lf []) = b := if_neg (by show ¬ (0 : Int) > b; omega)
    rw [e, e2]
    exact ⟨x, m, rfl⟩
  | n + 1, k, b, x, m, hb, h => by
    have hk : k < hs.length := by omega
    have e1 := lf_in hl k hk (some (.int b)) m
    have ed : hs.drop k = hs.getD k 0 :: hs.drop (k + 1) := by
      rw [List.drop_eq_getElem_cons hk, List.getD_eq_getElem?_getD, List.getElem?_eq_getElem hk]
      rfl
    have ec := lead_cnt (hs.getD k 0) (hs.drop k)
    rw [List.length_drop] at ec
    have el : lead (hs.getD k 0) (hs.drop k) = 1 + lead (hs.getD k 0) (hs.drop (k + 1)) := by
      rw [ed]
      exact if_pos rfl
    have ef : lf (hs.drop k) = mx (lead (hs.getD k 0) (hs.drop k)) (lf (hs.drop (k + 1))) := by
      rw [el, ed]
      rfl
    have lp := (lead_pos (hs.getD k 0) (hs.drop k)).1
    obtain ⟨x', m', e⟩ := lf_loop hl n (k + 1) (mx b (lead (hs.getD k 0) (hs.drop k))) (some (.int k)) (some (.int (lead (hs.getD k 0) (hs.drop k)))) (by unfold mx; split <;> omega) (by omega)
    refine ⟨x', m', ?_⟩
    rw [← ec] at e ef
    generalize ((List.range (hs.length - k)).filter fun j => decide ((hs.drop k).take (j + 1) = List.replicate (j + 1) (hs.getD k 0))) = F at *
    rw [ef, ← mx_assoc, ← e]
    show forL (gNm 2) lfB (.int k :: (List.range' (k + 1) n).map fun (i : Nat) => D.int i) _ = _
    generalize dints hs = ds at *
    refine forL_next (ρ1 := [some (.lst ds), some (.int b), some (.int k), m, none]) rfl ?_
    simp [lfB, r_bCons, e1, r_mx]
    rfl
theorem lfloat_ok {hs : List Int} (hl : hs.length ≤ 900) : Val m__law_float [.lst (dints hs)] (.int (lf hs)) := by
  obtain ⟨x', m', e⟩ := lf_loop hl hs.length 0 0 none none (Int.le_refl _) (by omega)
  have r1 := r_rng1 (j := (hs.length : Int)) (by omega) (by omega)
  have t2 : (hs.length : Int).toNat = hs.length := rfl
  rw [t2, List.range_eq_range'] at r1
  have z : mx 0 (lf (hs.drop 0)) = lf hs := by
    have := lf_pos hs
    show mx 0 (lf hs) = _
    unfold mx
    split <;> omega
  rw [z] at e
  have hn : (dints hs).length = hs.length := List.length_map ..
  have eB : B__law_float = (bCons (sSet 1 (eC (.int 0))) (bCons (sFor (iRng rng1 (aCons (eBlt bLen (aCons (eVar 0) aNil)) aNil)) (gNm 2) lfB) (bCons (sRet (eVar 1)) bNil))) := rfl
  generalize dints hs = ds at *
  exact ⟨_, by simp [me__law_float, r_runB, eB, r_bCons, start0, hn, r1, e]; rfl⟩
end LK80

namespace LK80
open PySem PySem.Spec L2 SX EV
/-! ### rows -/
def rowB (n : Nat) : D → Bool
  | .tup xs => decide (xs.length = n)
  | _ => false
def turnsB : D → Bool
  | .tup xs => xs.all isTurnD
  | _ => false
def rowsB (n : Nat) : D → Bool
  | .tup rs => decide (rs.length ≤ 40) && rs.all (rowB n) && rs.all turnsB
  | _ => false
theorem row_ok1 (n : Nat) {d : D} (h : d.sm = true) : Val m_is_tuple_of [d, .int n, .int n] (.bl (rowB n d)) := by
  by_cases ht : ∃ xs, d = .tup xs
  · obtain ⟨xs, rfl⟩ := ht
    obtain ⟨o, e⟩ := tup_of (xs := xs) (lo := n) (hi := n)
    have e1 : (decide ((n : Int) ≤ xs.length) && decide ((xs.length : Int) ≤ n)) = rowB n (.tup xs) := by
      show _ = decide (xs.length = n)
      rw [Bool.eq_iff_iff, Bool.and_eq_true, decide_eq_true_eq, decide_eq_true_eq, decide_eq_true_eq]
      omega
    rw [e1] at e
    exact ⟨o, e⟩
  · obtain ⟨o, e⟩ := tup_no (lo := n) (hi := n) (notup h ht)
    have e2 : rowB n d = false := by
      cases d <;> first | rfl | exact absurd ⟨_, rfl⟩ ht
    rw [e2]
    exact ⟨o, e⟩
theorem turns_all {xs : List D} (h : ∀ d, d ∈ xs → d.sm = true) (hl : xs.length ≤ 1000) {ρ : EV.Env} {r : Option D} (hr : ρ = [ρ.getD 0 none, ρ.getD 1 none, some (.tup xs), none]) : fLc [3] (iSeq (eVar 2)) (gNm 3) cYes (eCall m_is_turn (aCons (eVar 3) aNil)) ρ = .ok (.lst (xs.map fun d => .bl (isTurnD d)), ρ) := by
  rw [hr]
  refine fLc_map1 xs (fun d => d) _ (by rw [List.map_id']; simp) (by omega) fun d hd => ?_
  obtain ⟨o, e⟩ := turn_ok (sm_lay d (h d hd))
  simp [w1, wipeE, r_eCall, e]
theorem fits_rows_ok1 {ps : List D} {d : D} (h : d.sm = true) : Val m_fits_rows [.tup ps, d] (.bl (rowsB ps.length d)) := by
  by_cases ht : ∃ xs, d = .tup xs
  · obtain ⟨xs, rfl⟩ := ht
    obtain ⟨hl, hm⟩ := sm_tup h
    obtain ⟨o, e⟩ := tup_of (xs := xs) (lo := 0) (hi := 40)
    have e1 : (decide ((0 : Int) ≤ xs.length) && decide ((xs.length : Int) ≤ 40)) = decide (xs.length ≤ 40) := by
      rw [Bool.eq_iff_iff, Bool.and_eq_true, decide_eq_true_eq, decide_eq_true_eq, decide_eq_true_eq]
      omega
    rw [e1] at e
    have e0 : rowsB ps.length (.tup xs) = (decide (xs.length ≤ 40) && xs.all (rowB ps.length) && xs.all turnsB) := rfl
    cases hb : decide (xs.length ≤ 40) with
    | false =>
      rw [hb] at e e0
      exact ⟨_, by simp [me_fits_rows, r_runB, B_fits_rows, r_bCons, start0, r_eCall, e, e0]; rfl⟩
    | true =>
      rw [hb] at e e0
      have e5 : fLc [2] (iSeq (eVar 1)) (gNm 2) cYes (eCall m_is_tuple_of (aCons (eVar 2) (aCons (eBlt bLen (aCons (eVar 0) aNil)) (aCons (eBlt bLen (aCons (eVar 0) aNil)) aNil)))) [some (.tup ps), some (.tup xs), none, none] = .ok (.lst (xs.map fun d => .bl (rowB ps.length d)), [some (.tup ps), some (.tup xs), none, none]) := by
        refine fLc_map1 xs (fun d => d) _ (by rw [List.map_id']; simp) (by omega) fun d hd => ?_
        obtain ⟨o, e⟩ := row_ok1 ps.length (hm d hd)
        simp [w1, wipeE, r_eCall, e]
      have a5 := all_map (rowB ps.length) xs
      cases hc : xs.all (rowB ps.length) with
      | false =>
        rw [hc] at e0 a5
        exact ⟨_, by simp [me_fits_rows, r_runB, B_fits_rows, r_bCons, start0, r_eCall, e, e5, a5, e0]; rfl⟩
      | true =>
        rw [hc] at e0 a5
        have e6 : fLc [2] (iSeq (eVar 1)) (gNm 2) cYes (eBlt bAll (aCons (eF (fLc [3] (iSeq (eVar 2)) (gNm 3) cYes (eCall m_is_turn (aCons (eVar 3) aNil)))) aNil)) [some (.tup ps), some (.tup xs), none, none] = .ok (.lst (xs.map fun d => .bl (turnsB d)), [some (.tup ps), some (.tup xs), none, none]) := by
          refine fLc_map1 xs (fun d => d) _ (by rw [List.map_id']; simp) (by omega) fun d hd => ?_
          have hd1 := List.all_eq_true.mp hc d hd
          have hd2 := hm d hd
          match d, hd1, hd2 with
          | .tup ts, _, hd2 =>
            obtain ⟨l2, m2⟩ := sm_tup hd2
            have e7 := turns_all m2 l2 (ρ := [some (.tup ps), some (.tup xs), some (.tup ts), none]) (r := none) rfl
            have a7 := all_map isTurnD ts
            simp [w1, wipeE, e7, a7, turnsB]
        have a6 := all_map turnsB xs
        exact ⟨_, by simp [me_fits_rows, r_runB, B_fits_rows, r_bCons, start0, r_eCall, e, e5, a5, e6, a6, e0]; rfl⟩
  · obtain ⟨o, e⟩ := tup_no (lo := 0) (hi := 40) (notup h ht)
    have e2 : rowsB ps.length d = false := by
      cases d <;> first | rfl | exact absurd ⟨_, rfl⟩ ht
    exact ⟨_, by simp [me_fits_rows, r_runB, B_fits_rows, r_bCons, start0, r_eCall, e, e2]; rfl⟩
theorem are_rows_ok {ps : List D} {d : D} (hp : (D.tup ps).sm = true) (hpk : packB (.tup ps) = true) (h : d.sm = true) : Val m_are_rows [.tup ps, d] (.bl (rowsB ps.length d)) := by
  obtain ⟨o1, e1⟩ := pack_ok1 hp
  rw [hpk] at e1
  obtain ⟨o2, e2⟩ := need_ok
  obtain ⟨o3, e3⟩ := fits_rows_ok1 (ps := ps) h
  exact ⟨_, by simp [me_are_rows, r_runB, B_are_rows, r_bCons, start0, r_eCall, e1, e2, e3]; rfl⟩
end LK80

namespace LK80
open PySem PySem.Spec L2 SX EV
theorem ne_nilL (xs : List D) (h : layL xs = true) : dNe (.lst xs) (.lst []) = some (.bl (!xs.isEmpty)) := by
  show (if eqOk (.lst xs) (.lst []) = true then some (D.bl (!eqvL xs [])) else none) = _
  have h2 : eqOk (.lst xs) (.lst []) = true := by
    show (layL xs && true && decide (min (depL xs + 1) (0 + 1) ≤ 64)) = true
    rw [h, decide_eq_true (by omega)]
    rfl
  rw [if_pos h2]
  cases xs <;> rfl
theorem in11 (i : Int) : dIn not (.int i) (.tup [.int 1, .int (-1)]) = some (.bl (!((1 == i) || (-1 == i)))) := by
  show some (D.bl (!((1 == i) || ((-1 == i) || false)))) = _
  rw [Bool.or_false]
theorem turn_bad {d : D} (hd : d.sm = true) (ρ : EV.Env) (h3 : gt ρ 3 = some d) : (tOr (tB (eBin dNe (eCall m__law_sort (aCons (eVar 3) aNil)) (eC (.int 2)))) (tB (eBin (dIn not) (eVar 3) (eTup (aCons (eC (.int 1)) (aCons (eUn dNeg (eC (.int 1))) aNil)))))) ρ = .ok (!isTurnD d, ρ) := by
  obtain ⟨o, e⟩ := sort_ok (sm_lay d hd)
  have en : dNeg (.int 1) = some (.int (-1)) := rfl
  by_cases h : ∃ i, d = .int i
  · obtain ⟨i, rfl⟩ := h
    have e1 : sortN (.int i) = 2 := rfl
    rw [e1] at e
    have e2 : isTurnD (.int i) = ((1 == i) || (-1 == i)) := by
      show (decide (-1 ≤ i) && decide (i ≤ 1) && !(i == 0)) = _
      rw [Bool.eq_iff_iff]
      simp
      omega
    simp [r_eCall, h3, e, neI, en, in11, e2]
  · have e1 : (sortN d == 2) = false := by
      cases d <;> first | rfl | exact absurd ⟨_, rfl⟩ h
    have e2 : isTurnD d = false := by
      cases d <;> first | rfl | exact absurd ⟨_, rfl⟩ h
    simp [r_eCall, h3, e, neI, e1, e2]
def arB : SS := bCons (sIf (tB (eBin dNe (eF (fLc [3] (iSeq (eVar 2)) (gNm 3) (tOr (tB (eBin dNe (eCall m__law_sort (aCons (eVar 3) aNil)) (eC (.int 2)))) (tB (eBin (dIn not) (eVar 3) (eTup (aCons (eC (.int 1)) (aCons (eUn dNeg (eC (.int 1))) aNil)))))) (eVar 3))) (eF (fLst aNil)))) (bCons (sRet (eC (.bl false))) bNil) bNil) bNil
theorem bad_in {P X : D} {ts : List D} (hl : ts.length ≤ 1000) (h : ∀ d, d ∈ ts → d.sm = true) : fLc [3] (iSeq (eVar 2)) (gNm 3) (tOr (tB (eBin dNe (eCall m__law_sort (aCons (eVar 3) aNil)) (eC (.int 2)))) (tB (eBin (dIn not) (eVar 3) (eTup (aCons (eC (.int 1)) (aCons (eUn dNeg (eC (.int 1))) aNil)))))) (eVar 3) [some P, some X, some (.tup ts), none] = .ok (.lst (ts.filter fun d => !isTurnD d), [some P, some X, some (.tup ts), none]) := by
  have := fLc_flt1 (i := 3) (ρ := [some P, some X, some (.tup ts), none]) (fi := iSeq (eVar 2)) (cnd := tOr (tB (eBin dNe (eCall m__law_sort (aCons (eVar 3) aNil)) (eC (.int 2)))) (tB (eBin (dIn not) (eVar 3) (eTup (aCons (eC (.int 1)) (aCons (eUn dNeg (eC (.int 1))) aNil)))))) (elt := eVar 3) ts (fun d => d) (fun d => !isTurnD d) (fun d => d) (by rw [List.map_id']; simp) (by omega) (fun d hd => turn_bad (h d hd) _ rfl) fun d hd _ => by simp [w1, wipeE]
  rw [List.map_id'] at this
  exact this
theorem ar_loop {P X : D} (n : Nat) (rs : List D) (hm : ∀ d, d ∈ rs → d.sm = true) (hr : rs.all (rowB n) = true) : ∃ r, forL (gNm 2) arB rs [some P, some X, none, none] = .ok r ∧ ((r.1 = .nx ∧ rs.all turnsB = true) ∨ (r.1 = .ret (.bl false) ∧ rs.all turnsB = false)) ∧ ∃ x, r.2 = [some P, some X, x, none] := by
  have := forL_w (g := gNm 2) (B := arB) (e := fun d : D => d) (I := fun rest ρ => (∃ x, ρ = [some P, some X, x, none]) ∧ rs.all turnsB = rest.all turnsB ∧ ∀ d, d ∈ rest → d ∈ rs)
    (Q := fun r => ((r.1 = .nx ∧ rs.all turnsB = true) ∨ (r.1 = .ret (.bl false) ∧ rs.all turnsB = false)) ∧ ∃ x, r.2 = [some P, some X, x, none]) rs [some P, some X, none, none] ⟨⟨_, rfl⟩, rfl, fun _ h => h⟩ ?_ ?_
  · rw [List.map_id'] at this
    exact this
  · rintro t rest ρ ⟨⟨x, rfl⟩, ha, hs⟩
    have ht := hs t List.mem_cons_self
    have h1 := List.all_eq_true.mp hr t ht
    have h2 := hm t ht
    match t, h1, h2, ha with
    | .tup ts, _, h2, ha =>
      obtain ⟨l2, m2⟩ := sm_tup h2
      have e5 := bad_in (P := P) (X := X) l2 m2
      have e7 := ne_nilL _ (lay_filter (p := fun d => !isTurnD d) m2)
      rw [none_all] at e7
      cases hb : ts.all isTurnD with
      | true =>
        rw [hb] at e7
        refine ⟨[some P, some X, some (.tup ts), none], .nx, [some P, some X, some (.tup ts), none], rfl, by simp [arB, r_bCons, e5, e7], ⟨_, rfl⟩, ?_, fun d hd => hs d (List.mem_cons_of_mem _ hd)⟩
        rw [ha, List.all_cons]
        show (ts.all isTurnD && _) = _
        rw [hb]
        rfl
      | false =>
        rw [hb] at e7
        refine ⟨[some P, some X, some (.tup ts), none], .ret (.bl false), [some P, some X, some (.tup ts), none], rfl, by simp [arB, r_bCons, e5, e7], .inr ⟨rfl, ?_⟩, ⟨_, rfl⟩⟩
        rw [ha, List.all_cons]
        show (ts.all isTurnD && _) = _
        rw [hb]
        rfl
  · rintro ρ ⟨hx, ha, _⟩
    exact ⟨.inl ⟨rfl, ha⟩, hx⟩
theorem lare_rows_ok {ps : List D} {d : D} (h : d.sm = true) : Val m__law_are_rows [.tup ps, d] (.bl (rowsB ps.length d)) := by
  have eB : B__law_are_rows = (bCons (sIf (tOr (tNot (tTru (eIsi 3 (eVar 1)))) (tOr (tB (eBin dGT (eBlt bLen (aCons (eVar 1) aNil)) (eC (.int 40)))) (tB (eBin dNe (eF (fLc [2] (iSeq (eVar 1)) (gNm 2) (tOr (tNot (tTru (eIsi 3 (eVar 2)))) (tB (eBin dNe (eBlt bLen (aCons (eVar 2) aNil)) (eBlt bLen (aCons (eVar 0) aNil))))) (eVar 2))) (eF (fLst aNil)))))) (bCons (sRet (eC (.bl false))) bNil) bNil) (bCons (sFor (iSeq (eVar 1)) (gNm 2) arB) (bCons (sRet (eC (.bl true))) bNil))) := rfl
  by_cases ht : ∃ xs, d = .tup xs
  · obtain ⟨xs, rfl⟩ := ht
    obtain ⟨hl, hm⟩ := sm_tup h
    have e0 : rowsB ps.length (.tup xs) = (decide (xs.length ≤ 40) && xs.all (rowB ps.length) && xs.all turnsB) := rfl
    by_cases hb : (40 : Int) < xs.length
    · rw [decide_eq_false (by omega)] at e0
      exact ⟨_, by simp [me__law_are_rows, r_runB, eB, r_bCons, start0, is3t, hb, e0]; rfl⟩
    · rw [decide_eq_true (by omega)] at e0
      have e5 : fLc [2] (iSeq (eVar 1)) (gNm 2) (tOr (tNot (tTru (eIsi 3 (eVar 2)))) (tB (eBin dNe (eBlt bLen (aCons (eVar 2) aNil)) (eBlt bLen (aCons (eVar 0) aNil))))) (eVar 2) [some (.tup ps), some (.tup xs), none, none] = .ok (.lst (xs.filter fun d => !rowB ps.length d), [some (.tup ps), some (.tup xs), none, none]) := by
        have := fLc_flt1 (i := 2) (ρ := [some (.tup ps), some (.tup xs), none, none]) (fi := iSeq (eVar 1)) (cnd := tOr (tNot (tTru (eIsi 3 (eVar 2)))) (tB (eBin dNe (eBlt bLen (aCons (eVar 2) aNil)) (eBlt bLen (aCons (eVar 0) aNil))))) (elt := eVar 2) xs (fun d => d) (fun d => !rowB ps.length d) (fun d => d) (by rw [List.map_id']; simp) (by omega) (fun d hd => ?_) fun d hd _ => by simp [w1, wipeE]
        · rw [List.map_id'] at this
          exact this
        · by_cases h2 : ∃ ts, d = .tup ts
          · obtain ⟨ts, rfl⟩ := h2
            have : rowB ps.length (.tup ts) = ((ts.length : Int) == ps.length) := by
              show decide (ts.length = ps.length) = _
              rw [Bool.eq_iff_iff, decide_eq_true_eq, beq_iff_eq]
              omega
            simp [w1, wipeE, is3t, neI, this]
          · have e4 := notup (hm d hd) h2
            have : rowB ps.length d = false := by
              cases d <;> first | rfl | exact absurd ⟨_, rfl⟩ h2
            simp [w1, wipeE, e4, this]
      have e7 := ne_nilL _ (lay_filter (p := fun d => !rowB ps.length d) hm)
      rw [none_all] at e7
      cases hc : xs.all (rowB ps.length) with
      | false =>
        rw [hc] at e7 e0
        exact ⟨_, by simp [me__law_are_rows, r_runB, eB, r_bCons, start0, is3t, hb, e5, e7, e0]; rfl⟩
      | true =>
        rw [hc] at e7 e0
        obtain ⟨⟨fl, ρ⟩, el, hq, x, hx⟩ := ar_loop (P := .tup ps) (X := .tup xs) ps.length xs hm hc
        cases hx
        rcases hq with ⟨h1, h2⟩ | ⟨h1, h2⟩
        · cases h1
          rw [h2] at e0
          exact ⟨_, by simp [me__law_are_rows, r_runB, eB, r_bCons, start0, is3t, hb, e5, e7, el, e0]; rfl⟩
        · cases h1
          rw [h2] at e0
          exact ⟨_, by simp [me__law_are_rows, r_runB, eB, r_bCons, start0, is3t, hb, e5, e7, el, e0]; rfl⟩
  · have e := notup h ht
    have e2 : rowsB ps.length d = false := by
      cases d <;> first | rfl | exact absurd ⟨_, rfl⟩ ht
    exact ⟨_, by simp [me__law_are_rows, r_runB, eB, r_bCons, start0, e, e2]; rfl⟩
end LK80

namespace LK80
open PySem PySem.Spec L2 SX EV
/-! ### packs and rows -/
def pD (pk : List (List Nat × List (List Nat))) : List D := pk.map fun t => tab t.1 t.2
structure PkP (pk : List (List Nat × List (List Nat))) : Prop where
  lo : 1 ≤ pk.length
  hi : pk.length ≤ 8
  tabs : ∀ t, t ∈ pk → TabP t.1 t.2
def rD (rows : List (List Int)) : List D := rows.map fun r => .tup (dints r)
structure RwP (n : Nat) (rows : List (List Int)) : Prop where
  hi : rows.length ≤ 40
  len : ∀ r, r ∈ rows → r.length = n
  tn : ∀ r, r ∈ rows → TnI r
def colT (rows : List (List Int)) (k : Nat) : List Int := rows.map fun r => r.getD k 0
theorem colT_tn {n : Nat} {rows : List (List Int)} (h : RwP n rows) {k : Nat} (hk : k < n) : TnI (colT rows k) := by
  intro t ht
  obtain ⟨r, hr, rfl⟩ := List.mem_map.mp ht
  have hl := h.len r hr
  have : k < r.length := by omega
  rw [List.getD_eq_getElem?_getD, List.getElem?_eq_getElem this]
  exact h.tn r hr _ (List.getElem_mem _)
theorem turns_in_ok {n : Nat} {rows : List (List Int)} (h : RwP n rows) {k : Nat} (hk : k < n) : Val m_turns_in [.tup (rD rows), .int k] (.tup (dints (colT rows k))) := by
  have hh := h.hi
  have e5 : fLc [2] (iSeq (eVar 0)) (gNm 2) cYes (eBin dIx (eVar 2) (eVar 1)) [some (.tup (rD rows)), some (.int k), none] = .ok (.lst (rows.map fun r => .int (r.getD k 0)), [some (.tup (rD rows)), some (.int k), none]) := by
    refine fLc_map1 rows (fun r => .tup (dints r)) _ (by simp [rD]) (by omega) fun r hr => ?_
    have hl := h.len r hr
    have e := atI_ints r k (by omega)
    generalize dints r = ds at *
    generalize r.getD k 0 = y at *
    simp [w1, wipeE, e]
  have e6 : dints (colT rows k) = rows.map fun r => .int (r.getD k 0) := by
    unfold colT
    show (rows.map _).map D.int = _
    rw [List.map_map]
    rfl
  rw [e6]
  generalize (rows.map fun r => D.int (r.getD k 0)) = zs at *
  exact ⟨_, by simp [me_turns_in, r_runB, B_turns_in, r_bCons, start0, e5]; rfl⟩
end LK80

namespace LK80
open PySem PySem.Spec L2 SX EV
theorem enumL_ix (ds : List D) : ∀ (n : Nat), enumL n ds = (List.range ds.length).map fun (k : Nat) => .tup [.int ((n + k : Nat) : Int), ds.getD k .non] := by
  induction ds with
  | nil => intro n; rfl
  | cons d ds ih =>
    intro n
    rw [List.length_cons, List.range_succ_eq_map, List.map_cons, List.map_map]
    show D.tup [.int (n : Nat), d] :: enumL (n + 1) ds = _
    rw [ih (n + 1)]
    congr 1
    apply List.map_congr_left
    intro k _
    show D.tup [.int ((n + 1 + k : Nat) : Int), ds.getD k .non] = .tup [.int ((n + (k + 1) : Nat) : Int), (d :: ds).getD (k + 1) .non]
    rw [List.getD_cons_succ]
    congr 3
    omega
def pkAt (pk : List (List Nat × List (List Nat))) (k : Nat) : List Nat × List (List Nat) := pk.getD k ([], [])
theorem pkAt_mem {pk : List (List Nat × List (List Nat))} {k : Nat} (h : k < pk.length) : pkAt pk k ∈ pk := by
  unfold pkAt
  rw [List.getD_eq_getElem?_getD, List.getElem?_eq_getElem h]
  exact List.getElem_mem _
theorem enum_pk (pk : List (List Nat × List (List Nat))) : enum1 [.tup (pD pk)] = some ((List.range pk.length).map fun (k : Nat) => .tup [.int (k : Int), tab (pkAt pk k).1 (pkAt pk k).2]) := by
  show some (enumL 0 (pD pk)) = _
  rw [enumL_ix, show (pD pk).length = pk.length from List.length_map ..]
  congr 1
  apply List.map_congr_left
  intro k hk
  rw [List.mem_range] at hk
  rw [Nat.zero_add]
  congr 3
  unfold pD pkAt
  rw [List.getD_eq_getElem?_getD, List.getElem?_map, List.getElem?_eq_getElem hk, List.getD_eq_getElem?_getD, List.getElem?_eq_getElem hk]
  rfl
theorem sm_of_mem : ∀ {ds : List D}, (∀ d, d ∈ ds → d.sm = true) → smL ds = true := fun {ds} h => smL_of h
theorem PkP.sm {pk : List (List Nat × List (List Nat))} (h : PkP pk) : (D.tup (pD pk)).sm = true := by
  show (decide ((pD pk).length ≤ 1000) && smL (pD pk)) = true
  have h1 := h.hi
  rw [decide_eq_true (by show (pk.map _).length ≤ 1000; rw [List.length_map]; omega), smL_of (fun d hd => ?_)]
  · rfl
  · obtain ⟨t, ht, rfl⟩ := List.mem_map.mp hd
    exact (h.tabs t ht).sm
theorem PkP.ok {pk : List (List Nat × List (List Nat))} (h : PkP pk) : packB (.tup (pD pk)) = true := by
  show (decide (1 ≤ (pD pk).length) && decide ((pD pk).length ≤ 8) && (pD pk).all tabB) = true
  have h1 := h.hi
  have h2 := h.lo
  have e : (pD pk).length = pk.length := List.length_map ..
  rw [e, decide_eq_true h2, decide_eq_true h1, List.all_eq_true.mpr (fun d hd => ?_)]
  · rfl
  · obtain ⟨t, ht, rfl⟩ := List.mem_map.mp hd
    exact (h.tabs t ht).ok
theorem sm_ints (ts : List Int) : smL (dints ts) = true := smL_of fun d hd => by
  obtain ⟨t, _, rfl⟩ := List.mem_map.mp hd
  rfl
theorem RwP.sm {n : Nat} (hn : n ≤ 1000) {rows : List (List Int)} (h : RwP n rows) : (D.tup (rD rows)).sm = true := by
  show (decide ((rD rows).length ≤ 1000) && smL (rD rows)) = true
  have h1 := h.hi
  rw [decide_eq_true (by show (rows.map _).length ≤ 1000; rw [List.length_map]; omega), smL_of (fun d hd => ?_)]
  · rfl
  · obtain ⟨t, ht, rfl⟩ := List.mem_map.mp hd
    show (decide ((dints t).length ≤ 1000) && smL (dints t)) = true
    rw [sm_ints, decide_eq_true (by rw [List.length_map, h.len t ht]; exact hn)]
    rfl
theorem RwP.ok {n : Nat} {rows : List (List Int)} (h : RwP n rows) : rowsB n (.tup (rD rows)) = true := by
  show (decide ((rD rows).length ≤ 40) && (rD rows).all (rowB n) && (rD rows).all turnsB) = true
  have h1 := h.hi
  rw [decide_eq_true (by show (rows.map _).length ≤ 40; rw [List.length_map]; omega), List.all_eq_true.mpr (fun d hd => ?_), List.all_eq_true.mpr (fun d hd => ?_)]
  · rfl
  · obtain ⟨t, ht, rfl⟩ := List.mem_map.mp hd
    show (dints t).all isTurnD = true
    exact List.all_eq_true.mpr fun d hd => by
      obtain ⟨x, hx, rfl⟩ := List.mem_map.mp hd
      exact turnB (h.tn t ht x hx)
  · obtain ⟨t, ht, rfl⟩ := List.mem_map.mp hd
    show decide ((dints t).length = n) = true
    rw [List.length_map, h.len t ht]
    exact decide_eq_true rfl
end LK80

namespace LK80
open PySem PySem.Spec L2 SX EV
def colAt (pk : List (List Nat × List (List Nat))) (rows : List (List Int)) (k : Nat) : List (List Nat) := col (pkAt pk k).2 (colT rows k)
def colD (pk : List (List Nat × List (List Nat))) (rows : List (List Int)) (k : Nat) : D := .lst ((colAt pk rows k).map D.str)
theorem colAt_len (pk : List (List Nat × List (List Nat))) (rows : List (List Int)) (k : Nat) : (colAt pk rows k).length = rows.length := by
  unfold colAt col colT
  rw [List.length_map, hol_len, List.length_map]
def picD (pk : List (List Nat × List (List Nat))) (rows : List (List Int)) : D := .tup ((List.range rows.length).map fun r => .tup ((List.range pk.length).map fun k => .str ((colAt pk rows k).getD r [])))
theorem atI_strs (l : List (List Nat)) (k : Nat) (h : k < l.length) : L2.atI (l.map D.str) k = some (.str (l.getD k [])) := by
  unfold L2.atI
  rw [ixN_of (by omega) (by rw [List.length_map]; omega)]
  show (l.map D.str)[k]? = _
  rw [List.getElem?_map, List.getElem?_eq_getElem h, List.getD_eq_getElem?_getD, List.getElem?_eq_getElem h]
  rfl
/-- a column of the picture, by any names of the slots -/
theorem hole_map {s : List Nat} {l : List (List Nat)} {ts : List Int} (h : TabP s l) (hl : ts.length ≤ 1000) {ρ : EV.Env} {fi : EV.Env → Res (List D × EV.Env)} {i j : Nat} (hi : fi ρ = .ok (dints (hol 0 ts), ρ)) (hij : i ≠ j) (hj : j < ρ.length) (ht : gt ρ i = some (tab s l)) : fLc [j] fi (gNm j) cYes (eBin dIx (eBin dIx (eVar i) (eC (.int 1))) (eVar j)) ρ = .ok (.lst ((col l ts).map D.str), ρ) := by
  have e5 : fLc [j] fi (gNm j) cYes (eBin dIx (eBin dIx (eVar i) (eC (.int 1))) (eVar j)) ρ = .ok (.lst ((hol 0 ts).map fun h => .str (nmAt l h)), ρ) := by
    refine fLc_map1 (hol 0 ts) D.int _ hi (by rw [hol_len]; omega) fun x hx => ?_
    obtain ⟨b0, b1⟩ := hol_bound ts 0 (by decide) (by decide) x hx
    have := at_nm (l := l) b0 (by rw [h.len]; exact b1)
    have g1 : gt (w1 ρ j (.int x)) j = some (.int x) := gt_st_same _ _ _ (by rw [wipeE_length]; exact hj)
    have g2 : gt (w1 ρ j (.int x)) i = some (tab s l) := by
      show gt (st (wipeE ρ [j]) j (some (.int x))) i = _
      rw [gt_st_ne _ _ _ _ hij, gt_wipeE, if_neg (by simpa using hij)]
      exact ht
    simp [g1, g2, tab, at1, this]
  have e6 : (col l ts).map D.str = (hol 0 ts).map fun h => .str (nmAt l h) := by
    unfold col
    rw [List.map_map]
    rfl
  rw [e6]
  exact e5
theorem pic_cols {pk : List (List Nat × List (List Nat))} (hp : PkP pk) {rows : List (List Int)} (hr : RwP pk.length rows) : fLc [3, 4] (iRng enum1 (aCons (eVar 0) aNil)) (g2 3 4) cYes (eF (fLc [5] (iSeq (eBin dIx (eCall m_holes_of (aCons (eCall m_turns_in (aCons (eVar 1) (aCons (eVar 3) aNil))) aNil)) (eC (.int 0)))) (gNm 5) cYes (eBin dIx (eBin dIx (eVar 4) (eC (.int 1))) (eVar 5)))) [some (.tup (pD pk)), some (.tup (rD rows)), none, none, none, none, none, none] = .ok (.lst ((List.range pk.length).map (colD pk rows)), [some (.tup (pD pk)), some (.tup (rD rows)), none, none, none, none, none, none]) := by
  have h1 := hp.hi
  have ee := enum_pk pk
  refine fLc_map2 (List.range pk.length) (fun (k : Nat) => .int k) (fun k => tab (pkAt pk k).1 (pkAt pk k).2) _ (by simp [ee]) (by rw [List.length_range]; omega) fun k hk => ?_
  rw [List.mem_range] at hk
  obtain ⟨o1, t1⟩ := turns_in_ok hr hk
  have hl : (colT rows k).length ≤ 1000 := by
    have := hr.hi
    rw [colT, List.length_map]
    omega
  obtain ⟨o2, t2⟩ := holes_ok (ts := colT rows k) hl
  have tp := hp.tabs _ (pkAt_mem hk)
  have em := hole_map tp hl (ρ := [some (.tup (pD pk)), some (.tup (rD rows)), none, some (.int k), some (tab (pkAt pk k).1 (pkAt pk k).2), none, none, none]) (fi := iSeq (eBin dIx (eCall m_holes_of (aCons (eCall m_turns_in (aCons (eVar 1) (aCons (eVar 3) aNil))) aNil)) (eC (.int 0)))) (i := 4) (j := 5) (by
    generalize dints (colT rows k) = ds at *
    generalize dints (hol 0 (colT rows k)) = hs at *
    simp [r_eCall, t1, t2, at0]) (by decide) (by simp) rfl
  have eC : colD pk rows k = .lst ((col (pkAt pk k).2 (colT rows k)).map D.str) := rfl
  rw [eC]
  generalize (col (pkAt pk k).2 (colT rows k)).map D.str = cs at *
  show (eF _) [some (.tup (pD pk)), some (.tup (rD rows)), none, some (.int k), some (tab (pkAt pk k).1 (pkAt pk k).2), none, none, none] = _
  simp [em]
  rfl
end LK80

namespace LK80
open PySem PySem.Spec L2 SX EV
/-- reading one row off the columns -/
theorem pic_row (pk : List (List Nat × List (List Nat))) (rows : List (List Int)) (hn : pk.length ≤ 1000) {r : Nat} (hr : r < rows.length) {ρ : EV.Env} {fi : EV.Env → Res (List D × EV.Env)} {i j : Nat} (hi : fi ρ = .ok ((List.range pk.length).map (colD pk rows), ρ)) (hij : i ≠ j) (hj : j < ρ.length) (ht : gt ρ i = some (.int r)) : fLc [j] fi (gNm j) cYes (eBin dIx (eVar j) (eVar i)) ρ = .ok (.lst ((List.range pk.length).map fun k => .str ((colAt pk rows k).getD r [])), ρ) := by
  refine fLc_map1 (List.range pk.length) (colD pk rows) _ hi (by rw [List.length_range]; omega) fun k hk => ?_
  have e := atI_strs (colAt pk rows k) r (by rw [colAt_len]; exact hr)
  have g1 : gt (w1 ρ j (colD pk rows k)) j = some (colD pk rows k) := gt_st_same _ _ _ (by rw [wipeE_length]; exact hj)
  have g2 : gt (w1 ρ j (colD pk rows k)) i = some (.int r) := by
    show gt (st (wipeE ρ [j]) j (some (colD pk rows k))) i = _
    rw [gt_st_ne _ _ _ _ hij, gt_wipeE, if_neg (by simpa using hij)]
    exact ht
  generalize w1 ρ j (colD pk rows k) = ρ' at *
  have eC : colD pk rows k = .lst ((colAt pk rows k).map D.str) := rfl
  rw [eC] at g1
  generalize (colAt pk rows k).getD r [] = y at *
  generalize (colAt pk rows k).map D.str = cs at *
  simp [g1, g2, e]
theorem rD_len (rows : List (List Int)) : (rD rows).length = rows.length := List.length_map ..
theorem pD_len (pk : List (List Nat × List (List Nat))) : (pD pk).length = pk.length := List.length_map ..
theorem frows_ok {pk : List (List Nat × List (List Nat))} (hp : PkP pk) {rows : List (List Int)} (hr : RwP pk.length rows) : Val m_fits_rows [.tup (pD pk), .tup (rD rows)] (.bl true) := by
  have h1 := hp.hi
  have := fits_rows_ok1 (ps := pD pk) (hr.sm (by omega))
  rw [pD_len, hr.ok] at this
  exact this
theorem fpack_ok {pk : List (List Nat × List (List Nat))} (hp : PkP pk) : Val m_fits_pack [.tup (pD pk)] (.bl true) := by
  have := pack_ok1 hp.sm
  rw [hp.ok] at this
  exact this
theorem pic_ok {pk : List (List Nat × List (List Nat))} (hp : PkP pk) {rows : List (List Int)} (hr : RwP pk.length rows) : Val m_shown_picture [.tup (pD pk), .tup (rD rows)] (picD pk rows) := by
  obtain ⟨o1, e1⟩ := fpack_ok hp
  obtain ⟨o2, e2⟩ := frows_ok hp hr
  obtain ⟨o3, e3⟩ := need_ok
  have h1 := hp.hi
  have h2 := hr.hi
  have e4 := pic_cols hp hr
  have hg2 : g2 3 4 = gTupD 2 (gsCons (gNm 3) (gsCons (gNm 4) gsNil)) := rfl
  rw [hg2] at e4
  have r1 := r_rng1 (j := ((rD rows).length : Int)) (by omega) (by rw [rD_len]; omega)
  have t1 : (((rD rows).length : Int)).toNat = rows.length := by rw [rD_len]; rfl
  rw [t1] at r1
  have e5 : fLc [6] (iRng rng1 (aCons (eBlt bLen (aCons (eVar 1) aNil)) aNil)) (gNm 6) cYes (eBlt bTup (aCons (eF (fLc [7] (iSeq (eVar 2)) (gNm 7) cYes (eBin dIx (eVar 7) (eVar 6)))) aNil)) [some (.tup (pD pk)), some (.tup (rD rows)), some (.lst ((List.range pk.length).map (colD pk rows))), none, none, none, none, none] = .ok (.lst ((List.range rows.length).map fun r => .tup ((List.range pk.length).map fun k => .str ((colAt pk rows k).getD r []))), [some (.tup (pD pk)), some (.tup (rD rows)), some (.lst ((List.range pk.length).map (colD pk rows))), none, none, none, none, none]) := by
    refine fLc_map1 (List.range rows.length) (fun (r : Nat) => .int r) _ (by simp [r1]) (by rw [List.length_range]; omega) fun r hr' => ?_
    rw [List.mem_range] at hr'
    have e6 := pic_row pk rows (by omega) hr' (ρ := [some (.tup (pD pk)), some (.tup (rD rows)), some (.lst ((List.range pk.length).map (colD pk rows))), none, none, none, some (.int r), none]) (fi := iSeq (eVar 2)) (i := 6) (j := 7) (by simp) (by decide) (by simp) rfl
    show (eBlt bTup _) [some (.tup (pD pk)), some (.tup (rD rows)), some (.lst ((List.range pk.length).map (colD pk rows))), none, none, none, some (.int r), none] = _
    generalize ((List.range pk.length).map (colD pk rows)) = cs at *
    simp [e6]
    rfl
  have eP : picD pk rows = .tup ((List.range rows.length).map fun r => .tup ((List.range pk.length).map fun k => .str ((colAt pk rows k).getD r []))) := rfl
  rw [eP]
  generalize ((List.range rows.length).map fun r => D.tup ((List.range pk.length).map fun k => .str ((colAt pk rows k).getD r []))) = pp at *
  generalize ((List.range pk.length).map (colD pk rows)) = cs at *
  exact ⟨_, by simp [me_shown_picture, r_runB, B_shown_picture, r_bCons, start0, r_eCall, e1, e2, e3, e4, e5]; rfl⟩
end LK80

namespace LK80
open PySem PySem.Spec L2 SX EV
/-! ### twists -/
def twD (pk : List (List Nat × List (List Nat))) (rows : List (List Int)) : D := .tup ((List.range pk.length).map fun k => .int (colT rows k).sum)
theorem twists_ok {pk : List (List Nat × List (List Nat))} (hp : PkP pk) {rows : List (List Int)} (hr : RwP pk.length rows) : Val m_twists_of [.tup (pD pk), .tup (rD rows)] (twD pk rows) := by
  obtain ⟨o1, e1⟩ := fpack_ok hp
  obtain ⟨o2, e2⟩ := frows_ok hp hr
  obtain ⟨o3, e3⟩ := need_ok
  have h1 := hp.hi
  have r1 := r_rng1 (j := ((pD pk).length : Int)) (by omega) (by rw [pD_len]; omega)
  have t1 : (((pD pk).length : Int)).toNat = pk.length := by rw [pD_len]; rfl
  rw [t1] at r1
  have e5 : fLc [2] (iRng rng1 (aCons (eBlt bLen (aCons (eVar 0) aNil)) aNil)) (gNm 2) cYes (eBlt bSumA (aCons (eCall m_turns_in (aCons (eVar 1) (aCons (eVar 2) aNil))) aNil)) [some (.tup (pD pk)), some (.tup (rD rows)), none] = .ok (.lst ((List.range pk.length).map fun k => .int (colT rows k).sum), [some (.tup (pD pk)), some (.tup (rD rows)), none]) := by
    refine fLc_map1 (List.range pk.length) (fun (k : Nat) => .int k) _ (by simp [r1]) (by rw [List.length_range]; omega) fun k hk => ?_
    rw [List.mem_range] at hk
    obtain ⟨o1, t1⟩ := turns_in_ok hr hk
    have t2 := sum_tup (colT rows k)
    generalize dints (colT rows k) = ds at *
    simp [w1, wipeE, r_eCall, t1, t2]
  have eP : twD pk rows = .tup ((List.range pk.length).map fun k => .int (colT rows k).sum) := rfl
  rw [eP]
  generalize ((List.range pk.length).map fun k => D.int (colT rows k).sum) = pp at *
  exact ⟨_, by simp [me_twists_of, r_runB, B_twists_of, r_bCons, start0, r_eCall, e1, e2, e3, e5]; rfl⟩
end LK80

namespace LK80
open PySem PySem.Spec L2 SX EV
/-! ### leans -/
theorem zipL_zip {α β : Type} (f : α → D) (g : β → D) : ∀ (as : List α) (bs : List β), zipL (as.map f) (bs.map g) = (as.zip bs).map fun p => .tup [f p.1, g p.2]
  | [], _ => rfl
  | _ :: _, [] => rfl
  | a :: as, b :: bs => by
    show D.tup [f a, g b] :: zipL (as.map f) (bs.map g) = _
    rw [zipL_zip f g as bs]
    rfl
theorem dStrs_mapF {α : Type} (f : α → List Nat) : ∀ l : List α, dStrs (l.map fun x => .str (f x)) = some (l.map f)
  | [] => rfl
  | x :: l => by
    show (dStrs (l.map fun x => .str (f x))).map (f x :: ·) = _
    rw [dStrs_mapF f l]
    rfl
theorem joinL_ones {α : Type} (f : α → Nat) : ∀ l : List α, TL.joinL [] (l.map fun x => [f x]) = l.map f
  | [] => rfl
  | [x] => rfl
  | x :: y :: l => by
    show [f x] ++ ([] ++ TL.joinL [] ((y :: l).map fun x => [f x])) = _
    rw [joinL_ones f (y :: l)]
    rfl
theorem join_ones {α : Type} (f : α → Nat) (l : List α) (hl : l.length ≤ 1000) : dJoin (.str []) (.lst (l.map fun x => .str [f x])) = some (.str (l.map f)) := by
  show ((dStrs (l.map fun x => D.str [f x])).bind fun ss => if sizeJ [] ss ≤ LIM then some (D.str (TL.joinL [] ss)) else none) = _
  rw [dStrs_mapF (fun x => [f x])]
  show (if sizeJ [] (l.map fun x => [f x]) ≤ LIM then some (D.str (TL.joinL [] (l.map fun x => [f x]))) else none) = _
  have : sizeJ [] (l.map fun x => [f x]) = l.length := by
    unfold sizeJ
    rw [List.map_map, List.length_nil, Nat.mul_zero, Nat.add_zero]
    have : ∀ l : List α, (l.map (List.length ∘ fun x => [f x])).sum = l.length := fun l => by
      induction l with
      | nil => rfl
      | cons x l ih =>
        rw [List.map_cons, List.sum_cons, ih, List.length_cons]
        show 1 + _ = _
        omega
    exact this l
  rw [this, if_pos (Nat.le_trans hl (by decide)), joinL_ones]
end LK80

namespace LK80
open PySem PySem.Spec L2 SX EV
def lnC (s : List Nat) (t : Int) : Nat := if decide (s = [115]) == decide (0 < t) then 47 else 45
def lnOf (pk : List (List Nat × List (List Nat))) (r : List Int) : List Nat := (pk.zip r).map fun p => lnC p.1.1 p.2
def lnD (pk : List (List Nat × List (List Nat))) (rows : List (List Int)) : D := .tup (rows.map fun r => .str (lnOf pk r))
theorem zip_pr (pk : List (List Nat × List (List Nat))) (r : List Int) : zip2 [.tup (pD pk), .tup (dints r)] = some ((pk.zip r).map fun p => .tup [tab p.1.1 p.1.2, .int p.2]) := by
  rw [← zipL_zip (fun t : List Nat × List (List Nat) => tab t.1 t.2) D.int]
  rfl
theorem eqSS (a b : List Nat) : dEq (.str a) (.str b) = some (.bl (a == b)) := rfl
theorem eqBB (a b : Bool) : dEq (.bl a) (.bl b) = some (.bl (a == b)) := by cases a <;> cases b <;> rfl
theorem lean_elt {ρ : EV.Env} {s : List Nat} {l : List (List Nat)} {t : Int} (h4 : gt ρ 4 = some (tab s l)) (h5 : gt ρ 5 = some (.int t)) : (eIf (tB (eBin dEq (eBin dEq (eBin dIx (eVar 4) (eC (.int 0))) (eC (.str [115]))) (eBin dGT (eVar 5) (eC (.int 0))))) (eC (.str [47])) (eC (.str [45]))) ρ = .ok (.val (.str [lnC s t]), ρ) := by
  have e : (s == [115]) = decide (s = [115]) := by
    rw [Bool.eq_iff_iff, beq_iff_eq, decide_eq_true_eq]
  have e1 := eqSS s [115]
  rw [e] at e1
  have e2 : dGT (.int t) (.int 0) = some (.bl (decide (0 < t))) := rfl
  unfold lnC
  generalize decide (s = [115]) = p at *
  generalize decide (0 < t) = q at *
  have e3 := eqBB p q
  cases h : (p == q) with
  | true =>
    rw [h] at e3
    rw [if_pos rfl]
    simp [h4, h5, tab, at0, e1, e2, e3]
  | false =>
    rw [h] at e3
    rw [if_neg (by decide)]
    simp [h4, h5, tab, at0, e1, e2, e3]
end LK80

namespace LK80
open PySem PySem.Spec L2 SX EV
theorem r_eJoin (f g : SE) (ρ : EV.Env) : eJoin f g ρ = (f ρ >>= fun r => ofOpt (asS r.1) >>= fun s => g r.2 >>= fun r2 => deref r2.2 r2.1 >>= fun d => ofOpt (dJoin (.str s) d) >>= fun d' => .ok (.val d', r2.2)) := nr rfl
theorem r_asS (s : List Nat) : asS (.val (.str s)) = some s := nr rfl
def leB : SS := bCons (sExpr (eApp (ePlc 2) (eJoin (eC (.str [])) (eF (fLc [4, 5] (iRng zip2 (aCons (eVar 0) (aCons (eVar 3) aNil))) (gTupD 2 (gsCons (gNm 4) (gsCons (gNm 5) gsNil))) cYes (eIf (tB (eBin dEq (eBin dEq (eBin dIx (eVar 4) (eC (.int 0))) (eC (.str [115]))) (eBin dGT (eVar 5) (eC (.int 0))))) (eC (.str [47])) (eC (.str [45])))))))) bNil
theorem le_in {pk : List (List Nat × List (List Nat))} (hl : pk.length ≤ 1000) (r : List Int) (R : Option D) (acc : Option D) : fLc [4, 5] (iRng zip2 (aCons (eVar 0) (aCons (eVar 3) aNil))) (g2 4 5) cYes (eIf (tB (eBin dEq (eBin dEq (eBin dIx (eVar 4) (eC (.int 0))) (eC (.str [115]))) (eBin dGT (eVar 5) (eC (.int 0))))) (eC (.str [47])) (eC (.str [45]))) [some (.tup (pD pk)), R, acc, some (.tup (dints r)), none, none] = .ok (.lst ((pk.zip r).map fun p => .str [lnC p.1.1 p.2]), [some (.tup (pD pk)), R, acc, some (.tup (dints r)), none, none]) := by
  have z := zip_pr pk r
  have hz : (pk.zip r).length ≤ 1000 := by rw [List.length_zip]; omega
  refine fLc_map2 (pk.zip r) (fun p => tab p.1.1 p.1.2) (fun p => .int p.2) _ (by generalize dints r = ds at *; simp [z]) (by omega) fun p _ => lean_elt rfl rfl
theorem le_loop {pk : List (List Nat × List (List Nat))} (hl : pk.length ≤ 1000) (R : Option D) : ∀ (rows : List (List Int)) (acc : List D) (x : Option D), acc.length + rows.length ≤ 1000 → ∃ x', forL (gNm 3) leB (rD rows) [some (.tup (pD pk)), R, some (.lst acc), x, none, none] = .ok (.nx, [some (.tup (pD pk)), R, some (.lst (acc ++ rows.map fun r => .str (lnOf pk r))), x', none, none])
  | [], acc, x, _ => ⟨x, by simp [rD, forL_nil]⟩
  | r :: rows, acc, x, h => by
    rw [List.length_cons] at h
    have la : acc.length < 16777216 := by omega
    obtain ⟨x', e⟩ := le_loop hl R rows (acc ++ [.str (lnOf pk r)]) (some (.tup (dints r))) (by rw [List.length_append, List.length_singleton]; omega)
    refine ⟨x', ?_⟩
    have e1 := le_in hl r R (some (.lst acc))
    have hg2 : g2 4 5 = gTupD 2 (gsCons (gNm 4) (gsCons (gNm 5) gsNil)) := rfl
    rw [hg2] at e1
    have hz : (pk.zip r).length ≤ 1000 := by rw [List.length_zip]; omega
    have e2 : dJoin (.str []) (.lst ((pk.zip r).map fun p => .str [lnC p.1.1 p.2])) = some (.str (lnOf pk r)) := join_ones (fun p : (List Nat × List (List Nat)) × Int => lnC p.1.1 p.2) (pk.zip r) hz
    have ea := r_addTo (d := .str (lnOf pk r)) la
    have := forL_next (g := gNm 3) (B := leB) (d := .tup (dints r)) (ds := rD rows) (ρ := [some (.tup (pD pk)), R, some (.lst acc), x, none, none]) (ρ1 := [some (.tup (pD pk)), R, some (.lst acc), some (.tup (dints r)), none, none]) (ρ2 := [some (.tup (pD pk)), R, some (.lst (acc ++ [.str (lnOf pk r)])), some (.tup (dints r)), none, none]) rfl (by
      generalize ((pk.zip r).map fun p => D.str [lnC p.1.1 p.2]) = zs at *
      generalize lnOf pk r = y at *
      generalize dints r = ds at *
      simp [leB, r_bCons, r_eApp, r_eJoin, r_asS, e1, e2, ea])
    show forL (gNm 3) leB (.tup (dints r) :: rD rows) _ = _
    rw [this, e]
    simp
theorem leans_ok {pk : List (List Nat × List (List Nat))} (hp : PkP pk) {rows : List (List Int)} (hr : RwP pk.length rows) : Val m_leans_of [.tup (pD pk), .tup (rD rows)] (lnD pk rows) := by
  obtain ⟨o1, e1⟩ := fpack_ok hp
  obtain ⟨o2, e2⟩ := frows_ok hp hr
  obtain ⟨o3, e3⟩ := need_ok
  have h1 := hp.hi
  have h2 := hr.hi
  obtain ⟨x', e4⟩ := le_loop (pk := pk) (by omega) (some (.tup (rD rows))) rows [] none (by simp; omega)
  rw [List.nil_append] at e4
  have eB : B_leans_of = (bCons (sExpr (eCall m_need (aCons (eCall m_fits_pack (aCons (eVar 0) aNil)) aNil))) (bCons (sExpr (eCall m_need (aCons (eCall m_fits_rows (aCons (eVar 0) (aCons (eVar 1) aNil))) aNil))) (bCons (sSetF 2 (fLst aNil)) (bCons (sFor (iSeq (eVar 1)) (gNm 3) leB) (bFrz 2 (bCons (sRet (eBlt bTup (aCons (eVar 2) aNil))) bNil)))))) := rfl
  have eP : lnD pk rows = .tup (rows.map fun r => .str (lnOf pk r)) := rfl
  rw [eP]
  generalize (rows.map fun r => D.str (lnOf pk r)) = pp at *
  exact ⟨_, by simp [me_leans_of, r_runB, eB, r_bCons, start0, r_eCall, e1, e2, e3, e4, isLive]; rfl⟩
end LK80

namespace EV
open PySem PySem.Spec L2 SX
open PyProof.Rows hiding St
/-! ### running mirrors: what they come to, with all that is asked behind; simp never looks into what is asked -/
inductive Hid {α : Sort _} : α → Type
  | mk (a : α) : Hid a
def Wk {α : Type} (r : Res α) (Q : α → Prop) (_ : Hid Q := .mk Q) : Prop := ∃ a, r = .ok a ∧ Q a
/-- a fork -/
def Wf {α : Type} (c : Bool) (a b : Res α) (Q : α → Prop) (_ : Hid (a, b, Q) := .mk (a, b, Q)) : Prop := Wk (cond c a b) Q
section
variable {α β : Type}
/-- a thing that simp leaves as it is -/
def Hold (P : Prop) (_ : Hid P := .mk P) : Prop := P
theorem Hold.mk {P : Prop} {t : Hid P} (h : P) : Hold P t := h
theorem Wk.mono {r : Res α} {Q Q' : α → Prop} {t : Hid Q} {t' : Hid Q'} (h : Wk r Q t) (k : ∀ a, Q a → Q' a) : Wk r Q' t' := let ⟨a, e, q⟩ := h; ⟨a, e, k a q⟩
theorem Wk.eq {r : Res α} {a : α} {Q : α → Prop} {t : Hid Q} (h : r = .ok a) (q : Q a) : Wk r Q t := ⟨a, h, q⟩
theorem wk_of {r r' : Res α} {Q : α → Prop} {t : Hid Q} (h : r = r') : Wk r Q t = Wk r' Q t := by rw [h]
@[simp] theorem wk_ok (a : α) (Q : α → Prop) (t : Hid Q) : Wk (.ok a) Q t = Q a := propext ⟨fun ⟨b, h, q⟩ => by cases h; exact q, fun q => ⟨a, rfl, q⟩⟩
@[simp ↓] theorem wk_bind (x : Res α) (f : α → Res β) (Q : β → Prop) (t : Hid Q) : Wk (x >>= f) Q t = Wk x fun a => Wk (f a) Q t := by
  cases x with
  | ok a => simp only [ok_bind, wk_ok]
  | err c p => exact propext ⟨fun ⟨_, h, _⟩ => (nomatch h), fun ⟨_, h, _⟩ => (nomatch h)⟩
  | stuck => exact propext ⟨fun ⟨_, h, _⟩ => (nomatch h), fun ⟨_, h, _⟩ => (nomatch h)⟩
theorem wk_b {x : Res α} {f : α → Res β} {Q : β → Prop} {t : Hid Q} {R : α → Prop} {u : Hid R} (h : ∀ a, Wk (f a) Q t = R a) : Wk (x >>= f) Q t = Wk x R u := by
  rw [wk_bind]
  have : (fun a => Wk (f a) Q t) = R := funext h
  subst this
  rfl
theorem wk_b0 {x : Res α} {Q R : α → Prop} {t : Hid Q} {u : Hid R} (h : ∀ a, Q a = R a) : Wk x Q t = Wk x R u := by
  have : Q = R := funext h
  subst this
  rfl
@[simp ↓] theorem wk_cond (c : Bool) (a b : Res α) (Q : α → Prop) (t : Hid Q) : Wk (bif c then a else b) Q t = Wf c a b Q := nr rfl
@[simp] theorem wf_true (a b : Res α) (Q : α → Prop) (t : Hid (a, b, Q)) : Wf true a b Q t = Wk a Q := nr rfl
@[simp] theorem wf_false (a b : Res α) (Q : α → Prop) (t : Hid (a, b, Q)) : Wf false a b Q t = Wk b Q := nr rfl
theorem Wf.of {c : Bool} {a b : Res α} {Q : α → Prop} {t : Hid (a, b, Q)} (h1 : c = true → Wk a Q) (h2 : c = false → Wk b Q) : Wf c a b Q t := by
  cases c
  · exact h2 rfl
  · exact h1 rfl
theorem wk_some {o : Option α} {a : α} {Q : α → Prop} {t : Hid Q} (h : o = some a) (q : Q a) : Wk (ofOpt o) Q t := ⟨a, by rw [h]; rfl, q⟩
theorem Wk.ok_iff {r : Res α} {a : α} : (Wk r fun x => x = a) ↔ r = .ok a := ⟨fun ⟨b, h, q⟩ => by rw [← q]; exact h, fun h => ⟨a, h, rfl⟩⟩
end
/-- what a def gives, without what it hands back -/
def FS.v (F : FS) (ds : List D) : Res D := F.m ds >>= fun o => .ok o.1
def shV (b : Bool) (r : Res D) : Res D := r >>= fun d => bif b || d.flat then .ok d else .stuck
theorem Val.v {F : FS} {ds : List D} {d : D} (h : Val F ds d) : F.v ds = .ok d := by
  obtain ⟨o, e⟩ := h
  unfold FS.v
  rw [e]
  rfl
theorem v_val {F : FS} {ds : List D} {d : D} (h : F.v ds = .ok d) : Val F ds d := by
  unfold FS.v at h
  unfold Val
  cases q : F.m ds with
  | ok o =>
    rw [q] at h
    have h' : Res.ok o.1 = Res.ok d := h
    injection h' with h'
    subst h'
    exact ⟨o.2, rfl⟩
  | err c p => rw [q] at h; cases h
  | stuck => rw [q] at h; cases h
theorem Wk.v {F : FS} {ds : List D} {d : D} (h : Wk (F.m ds) fun r => r.1 = d) : F.v ds = .ok d := by
  obtain ⟨⟨a, o⟩, e, rfl⟩ := h
  exact Val.v ⟨o, e⟩
theorem Wk.v' {F : FS} {ds : List D} {P : D → Prop} (h : Wk (F.m ds) fun r => P r.1) : ∃ d, F.v ds = .ok d ∧ P d := by
  obtain ⟨⟨a, o⟩, e, p⟩ := h
  exact ⟨a, Val.v ⟨o, e⟩, p⟩
theorem wk_v (F : FS) (ds : List D) (Q : D → Prop) (t : Hid Q) : Wk (F.v ds) Q t = Wk (F.m ds) fun o => Q o.1 := by
  unfold FS.v
  exact wk_b fun o => wk_ok _ _ _
variable {ρ : Env} {Q : DV × Env → Prop} {t : Hid Q} {Qb : Bool × Env → Prop} {tb : Hid Qb} {Qs : Fl × Env → Prop} {ts : Hid Qs} {Qd : D × Env → Prop} {td : Hid Qd} {Qa : List DV × Env → Prop} {ta : Hid Qa} {Ql : List D × Env → Prop} {tl : Hid Ql} {Qe : Env → Prop} {te : Hid Qe} {Qo : D × List D → Prop} {to : Hid Qo} {Qp : Option Int × Env → Prop} {tp : Hid Qp} {Qq : List (Bool × D) × Env → Prop} {tq : Hid Qq} {Qr : D → Prop} {tr : Hid Qr} {Qu : Unit → Prop} {tu : Hid Qu}
@[simp] theorem wk_shT (r : Res D) : shV true r = r := by cases r <;> rfl
@[simp] theorem wk_shOk (b : Bool) (d : D) : shV b (.ok d) = bif b || d.flat then .ok d else .stuck := nr rfl
@[simp ↓] theorem wk_eC (d : D) : Wk (eC d ρ) Q t = Q (.val d, ρ) := by rw [r_eC, wk_ok]
@[simp ↓] theorem wk_eVar (i : Nat) : Wk (eVar i ρ) Q t = Wk (ofOpt (gt ρ i)) fun d => Q (.val d, ρ) := by rw [r_eVar]; repeat' (first | exact wk_ok _ _ _ | exact wk_cond _ _ _ _ _ | refine wk_b fun _ => ?_)
@[simp ↓] theorem wk_ePlc (i : Nat) : Wk (ePlc i ρ) Q t = Wk (ofOpt (gt ρ i)) fun _ => Q (.plc i, ρ) := by rw [r_ePlc]; repeat' (first | exact wk_ok _ _ _ | exact wk_cond _ _ _ _ _ | refine wk_b fun _ => ?_)
@[simp ↓] theorem wk_eBin (g : D → D → Option D) (f1 f2 : SE) : Wk (eBin g f1 f2 ρ) Q t = Wk (f1 ρ) fun r1 => Wk (f2 r1.2) fun r2 => Wk (deref r2.2 r1.1) fun d1 => Wk (deref r2.2 r2.1) fun d2 => Wk (ofOpt (g d1 d2)) fun d => Q (.val d, r2.2) := by rw [r_eBin]; repeat' (first | exact wk_ok _ _ _ | exact wk_cond _ _ _ _ _ | refine wk_b fun _ => ?_)
@[simp ↓] theorem wk_eUn (g : D → Option D) (f1 : SE) : Wk (eUn g f1 ρ) Q t = Wk (f1 ρ) fun r1 => Wk (deref r1.2 r1.1) fun d1 => Wk (ofOpt (g d1)) fun d => Q (.val d, r1.2) := by rw [r_eUn]; repeat' (first | exact wk_ok _ _ _ | exact wk_cond _ _ _ _ _ | refine wk_b fun _ => ?_)
@[simp ↓] theorem wk_tB (f : SE) : Wk (tB f ρ) Qb tb = Wk (f ρ) fun r => Wk (ofOpt (asB r.1)) fun k => Qb (k, r.2) := by rw [r_tB]; repeat' (first | exact wk_ok _ _ _ | exact wk_cond _ _ _ _ _ | refine wk_b fun _ => ?_)
@[simp ↓] theorem wk_tTru (f : SE) : Wk (tTru f ρ) Qb tb = Wk (f ρ) fun r => Wk (deref r.2 r.1) fun d => Wk (ofOpt (truth d)) fun k => Qb (k, r.2) := by rw [r_tTru]; repeat' (first | exact wk_ok _ _ _ | exact wk_cond _ _ _ _ _ | refine wk_b fun _ => ?_)
@[simp ↓] theorem wk_tNot (f : Env → Res (Bool × Env)) : Wk (tNot f ρ) Qb tb = Wk (f ρ) fun r => Qb (!r.1, r.2) := by rw [r_tNot]; repeat' (first | exact wk_ok _ _ _ | exact wk_cond _ _ _ _ _ | refine wk_b fun _ => ?_)
@[simp ↓] theorem wk_tAnd (f g : Env → Res (Bool × Env)) : Wk (tAnd f g ρ) Qb tb = Wk (f ρ) fun r => Wf r.1 (g r.2) (.ok (false, r.2)) Qb := by rw [r_tAnd]; repeat' (first | exact wk_ok _ _ _ | exact wk_cond _ _ _ _ _ | refine wk_b fun _ => ?_)
@[simp ↓] theorem wk_tOr (f g : Env → Res (Bool × Env)) : Wk (tOr f g ρ) Qb tb = Wk (f ρ) fun r => Wf r.1 (.ok (true, r.2)) (g r.2) Qb := by rw [r_tOr]; repeat' (first | exact wk_ok _ _ _ | exact wk_cond _ _ _ _ _ | refine wk_b fun _ => ?_)
@[simp ↓] theorem wk_eAnd (f g : SE) : Wk (eAnd f g ρ) Q t = Wk (f ρ) fun r => Wk (ofOpt (asB r.1)) fun k => Wf k (g r.2) (.ok (.val (.bl false), r.2)) Q := by rw [r_eAnd]; repeat' (first | exact wk_ok _ _ _ | exact wk_cond _ _ _ _ _ | refine wk_b fun _ => ?_)
@[simp ↓] theorem wk_eOr (f g : SE) : Wk (eOr f g ρ) Q t = Wk (f ρ) fun r => Wk (ofOpt (asB r.1)) fun k => Wf k (.ok (.val (.bl true), r.2)) (g r.2) Q := by rw [r_eOr]; repeat' (first | exact wk_ok _ _ _ | exact wk_cond _ _ _ _ _ | refine wk_b fun _ => ?_)
@[simp ↓] theorem wk_eNot (f : SE) : Wk (eNot f ρ) Q t = Wk (f ρ) fun r => Wk (ofOpt (asB r.1)) fun k => Q (.val (.bl (!k)), r.2) := by rw [r_eNot]; repeat' (first | exact wk_ok _ _ _ | exact wk_cond _ _ _ _ _ | refine wk_b fun _ => ?_)
@[simp ↓] theorem wk_eIf (c : Env → Res (Bool × Env)) (f g : SE) : Wk (eIf c f g ρ) Q t = Wk (c ρ) fun r => Wf r.1 (f r.2) (g r.2) Q := by rw [r_eIf]; repeat' (first | exact wk_ok _ _ _ | exact wk_cond _ _ _ _ _ | refine wk_b fun _ => ?_)
@[simp ↓] theorem wk_eChain (g g' : D → D → Option D) (f1 f2 f3 : SE) : Wk (eChain g g' f1 f2 f3 ρ) Q t = Wk (f1 ρ) fun r1 => Wk (f2 r1.2) fun r2 => Wk (deref r2.2 r1.1) fun d1 => Wk (deref r2.2 r2.1) fun d2 => Wk (ofOpt (g d1 d2)) fun d => Wk (ofOpt (asB (.val d))) fun k =>
  Wf k (f3 r2.2 >>= fun r3 => deref r3.2 r2.1 >>= fun d2' => deref r3.2 r3.1 >>= fun d3 => ofOpt (g' d2' d3) >>= fun d' => .ok (.val d', r3.2)) (.ok (.val (.bl false), r2.2)) Q := by rw [r_eChain]; repeat' (first | exact wk_ok _ _ _ | exact wk_cond _ _ _ _ _ | refine wk_b fun _ => ?_)
@[simp ↓] theorem wk_aNil : Wk (aNil ρ) Qa ta = Qa ([], ρ) := by rw [r_aNil, wk_ok]
@[simp ↓] theorem wk_aCons (f : SE) (fs : Env → Res (List DV × Env)) : Wk (aCons f fs ρ) Qa ta = Wk (f ρ) fun r1 => Wk (fs r1.2) fun r2 => Qa (r1.1 :: r2.1, r2.2) := by rw [r_aCons]; repeat' (first | exact wk_ok _ _ _ | exact wk_cond _ _ _ _ _ | refine wk_b fun _ => ?_)
@[simp ↓] theorem wk_eTup (fs : Env → Res (List DV × Env)) : Wk (eTup fs ρ) Q t = Wk (fs ρ) fun r => Wk (ofOpt (vals r.1)) fun ds => Wk (ofOpt (lim ds.length)) fun _ => Q (.val (.tup ds), r.2) := by rw [r_eTup]; repeat' (first | exact wk_ok _ _ _ | exact wk_cond _ _ _ _ _ | refine wk_b fun _ => ?_)
@[simp ↓] theorem wk_fLst (fs : Env → Res (List DV × Env)) : Wk (fLst fs ρ) Qd td = Wk (fs ρ) fun r => Wk (ofOpt (vals r.1)) fun ds => Wk (ofOpt (lim ds.length)) fun _ => Qd (.lst ds, r.2) := by rw [r_fLst]; repeat' (first | exact wk_ok _ _ _ | exact wk_cond _ _ _ _ _ | refine wk_b fun _ => ?_)
@[simp ↓] theorem wk_eF (f : Env → Res (D × Env)) : Wk (eF f ρ) Q t = Wk (f ρ) fun r => Q (.val r.1, r.2) := by rw [r_eF]; repeat' (first | exact wk_ok _ _ _ | exact wk_cond _ _ _ _ _ | refine wk_b fun _ => ?_)
@[simp ↓] theorem wk_fBin (g : D → D → Option D) (f1 f2 : SE) : Wk (fBin g f1 f2 ρ) Qd td = Wk (f1 ρ) fun r1 => Wk (f2 r1.2) fun r2 => Wk (deref r2.2 r1.1) fun d1 => Wk (deref r2.2 r2.1) fun d2 => Wk (ofOpt (g d1 d2)) fun d => Qd (d, r2.2) := by rw [r_fBin]; repeat' (first | exact wk_ok _ _ _ | exact wk_cond _ _ _ _ _ | refine wk_b fun _ => ?_)
@[simp ↓] theorem wk_eBlt (g : List D → Option D) (fs : Env → Res (List DV × Env)) : Wk (eBlt g fs ρ) Q t = Wk (fs ρ) fun r => Wk (ofOpt (rdA r.2 r.1)) fun ds => Wk (ofOpt (g ds)) fun d => Q (.val d, r.2) := by rw [r_eBlt]; repeat' (first | exact wk_ok _ _ _ | exact wk_cond _ _ _ _ _ | refine wk_b fun _ => ?_)
@[simp ↓] theorem wk_fBlt (g : List D → Option D) (fs : Env → Res (List DV × Env)) : Wk (fBlt g fs ρ) Qd td = Wk (fs ρ) fun r => Wk (ofOpt (rdA r.2 r.1)) fun ds => Wk (ofOpt (g ds)) fun d => Qd (d, r.2) := by rw [r_fBlt]; repeat' (first | exact wk_ok _ _ _ | exact wk_cond _ _ _ _ _ | refine wk_b fun _ => ?_)
@[simp ↓] theorem wk_eIsi (k : Nat) (f : SE) : Wk (eIsi k f ρ) Q t = Wk (f ρ) fun r => Wk (deref r.2 r.1) fun d => Wk (ofOpt (isD k d)) fun b => Q (.val (.bl b), r.2) := by rw [r_eIsi]; repeat' (first | exact wk_ok _ _ _ | exact wk_cond _ _ _ _ _ | refine wk_b fun _ => ?_)
@[simp ↓] theorem wk_bNil : Wk (bNil ρ) Qs ts = Qs (.nx, ρ) := by rw [r_bNil, wk_ok]
/-- behind a statement -/
def bNext (g : SS) (r : Fl × Env) : Res (Fl × Env) := match r.1 with
  | .nx => g r.2
  | fl => .ok (fl, r.2)
@[simp] theorem bNext_nx (g : SS) (ρ : Env) : bNext g (.nx, ρ) = g ρ := nr rfl
@[simp] theorem bNext_ret (g : SS) (d : D) (ρ : Env) : bNext g (.ret d, ρ) = .ok (.ret d, ρ) := nr rfl
@[simp] theorem bNext_brk (g : SS) (ρ : Env) : bNext g (.brk, ρ) = .ok (.brk, ρ) := nr rfl
@[simp] theorem bNext_cont (g : SS) (ρ : Env) : bNext g (.cont, ρ) = .ok (.cont, ρ) := nr rfl
@[simp ↓] theorem wk_next_nx (g : SS) (ρ : Env) : Wk (bNext g (.nx, ρ)) Qs ts = Wk (g ρ) Qs ts := nr rfl
@[simp ↓] theorem wk_next_ret (g : SS) (d : D) (ρ : Env) : Wk (bNext g (.ret d, ρ)) Qs ts = Qs (.ret d, ρ) := by rw [bNext_ret, wk_ok]
@[simp ↓] theorem wk_next_brk (g : SS) (ρ : Env) : Wk (bNext g (.brk, ρ)) Qs ts = Qs (.brk, ρ) := by rw [bNext_brk, wk_ok]
@[simp ↓] theorem wk_next_cont (g : SS) (ρ : Env) : Wk (bNext g (.cont, ρ)) Qs ts = Qs (.cont, ρ) := by rw [bNext_cont, wk_ok]
@[simp ↓] theorem wk_bCons (f g : SS) : Wk (bCons f g ρ) Qs ts = Wk (f ρ) fun r => Wk (bNext g r) Qs ts := by
  rw [r_bCons, wk_bind]
  rfl
@[simp ↓] theorem wk_sRet (f : SE) : Wk (sRet f ρ) Qs ts = Wk (f ρ) fun r => Wk (ofOpt (valOf r.1)) fun d => Qs (.ret d, r.2) := by rw [r_sRet]; repeat' (first | exact wk_ok _ _ _ | exact wk_cond _ _ _ _ _ | refine wk_b fun _ => ?_)
@[simp ↓] theorem wk_sRetN : Wk (sRetN ρ) Qs ts = Qs (.ret .non, ρ) := wk_ok _ _ _
@[simp ↓] theorem wk_sExpr (f : SE) : Wk (sExpr f ρ) Qs ts = Wk (f ρ) fun r => Qs (.nx, r.2) := by rw [r_sExpr]; repeat' (first | exact wk_ok _ _ _ | exact wk_cond _ _ _ _ _ | refine wk_b fun _ => ?_)
@[simp ↓] theorem wk_sBrk : Wk (sBrk ρ) Qs ts = Qs (.brk, ρ) := wk_ok _ _ _
@[simp ↓] theorem wk_sCont : Wk (sCont ρ) Qs ts = Qs (.cont, ρ) := wk_ok _ _ _
@[simp ↓] theorem wk_sIf (c : Env → Res (Bool × Env)) (f g : SS) : Wk (sIf c f g ρ) Qs ts = Wk (c ρ) fun r => Wf r.1 (f r.2) (g r.2) Qs := by rw [r_sIf]; repeat' (first | exact wk_ok _ _ _ | exact wk_cond _ _ _ _ _ | refine wk_b fun _ => ?_)
@[simp ↓] theorem wk_sSet (i : Nat) (f : SE) : Wk (sSet i f ρ) Qs ts = Wk (f ρ) fun r => Wk (ofOpt (valOf r.1)) fun d => Qs (.nx, st r.2 i (some d)) := by rw [r_sSet]; repeat' (first | exact wk_ok _ _ _ | exact wk_cond _ _ _ _ _ | refine wk_b fun _ => ?_)
@[simp ↓] theorem wk_sSetF (i : Nat) (f : Env → Res (D × Env)) : Wk (sSetF i f ρ) Qs ts = Wk (f ρ) fun r => Qs (.nx, st r.2 i (some r.1)) := by rw [r_sSetF]; repeat' (first | exact wk_ok _ _ _ | exact wk_cond _ _ _ _ _ | refine wk_b fun _ => ?_)
@[simp ↓] theorem wk_gNm (i : Nat) (d : D) : Wk (gNm i d ρ) Qe te = Qe (st ρ i (some d)) := by rw [r_gNm, wk_ok]
@[simp ↓] theorem wk_noErr {α : Type} (r : Res α) (Q : α → Prop) (t : Hid Q) : Wk (noErr r) Q t = Wk r Q t := by
  cases r with
  | ok a => rfl
  | err c p => exact propext ⟨fun ⟨_, h, _⟩ => (nomatch h), fun ⟨_, h, _⟩ => (nomatch h)⟩
  | stuck => rfl
@[simp ↓] theorem wk_pNone : Wk (pNone ρ) Qp tp = Qp (none, ρ) := by rw [r_pNone, wk_ok]
@[simp ↓] theorem wk_pSome (f : SE) : Wk (pSome f ρ) Qp tp = Wk (f ρ) fun r => Wk (ofOpt (asI r.1)) fun i => Qp (some i, r.2) := by rw [r_pSome]; repeat' (first | exact wk_ok _ _ _ | exact wk_cond _ _ _ _ _ | refine wk_b fun _ => ?_)
@[simp ↓] theorem wk_eSl (f : SE) (fl fh : Env → Res (Option Int × Env)) : Wk (eSl f fl fh ρ) Q t = Wk (f ρ) fun r => Wk (fl r.2) fun l => Wk (fh l.2) fun h => Wk (deref h.2 r.1) fun d => Wk (ofOpt (dSl d l.1 h.1)) fun d' => Q (.val d', h.2) := by rw [r_eSl]; repeat' (first | exact wk_ok _ _ _ | exact wk_cond _ _ _ _ _ | refine wk_b fun _ => ?_)
@[simp ↓] theorem wk_iSeq (f : SE) : Wk (iSeq f ρ) Ql tl = Wk (f ρ) fun r => Wk (ofOpt (seqOf r.1)) fun ds => Ql (ds, r.2) := by rw [r_iSeq]; repeat' (first | exact wk_ok _ _ _ | exact wk_cond _ _ _ _ _ | refine wk_b fun _ => ?_)
@[simp ↓] theorem wk_iRng (k : List D → Option (List D)) (fs : Env → Res (List DV × Env)) : Wk (iRng k fs ρ) Ql tl = Wk (fs ρ) fun r => Wk (ofOpt (vals r.1)) fun ds => Wk (ofOpt (k ds)) fun xs => Ql (xs, r.2) := by rw [r_iRng]; repeat' (first | exact wk_ok _ _ _ | exact wk_cond _ _ _ _ _ | refine wk_b fun _ => ?_)
@[simp ↓] theorem wk_sFor (fi : Env → Res (List D × Env)) (g : D → Env → Res Env) (B : SS) : Wk (sFor fi g B ρ) Qs ts = Wk (fi ρ) fun r => Wk (forL g B r.1 r.2) Qs := by rw [r_sFor]; exact wk_b fun r => by cases ts; rfl
@[simp ↓] theorem wk_bFrz (i : Nat) (f : SS) : Wk (bFrz i f ρ) Qs ts = Wk (gd (isLive i ρ)) fun _ => Wk (f ρ) fun r => Qs (r.1, st r.2 i none) := by rw [r_bFrz]; repeat' (first | exact wk_ok _ _ _ | exact wk_cond _ _ _ _ _ | refine wk_b fun _ => ?_)
@[simp] theorem q_live (i : Nat) (ρ : Env) : isLive i ρ = (gt ρ i).isSome := nr rfl
@[simp ↓] theorem wk_sAsgN (g : D → Env → Res Env) (f : SE) : Wk (sAsgN g f ρ) Qs ts = Wk (f ρ) fun r => Wk (ofOpt (valOf r.1)) fun d => Wk (g d r.2) fun ρ' => Qs (.nx, ρ') := by
  rw [r_sAsgN]
  refine wk_b fun r => wk_b fun d => ?_
  rw [wk_bind, wk_noErr]
  exact wk_b0 fun _ => wk_ok _ _ _
@[simp ↓] theorem wk_qNil : Wk (qNil ρ) Qq tq = Qq ([], ρ) := by rw [r_qNil, wk_ok]
@[simp ↓] theorem wk_qVal (f : SE) (fs : Env → Res (List (Bool × D) × Env)) : Wk (qVal f fs ρ) Qq tq = Wk (f ρ) fun r1 => Wk (ofOpt (valOf r1.1)) fun d => Wk (fs r1.2) fun r2 => Qq ((false, d) :: r2.1, r2.2) := by rw [r_qVal]; repeat' (first | exact wk_ok _ _ _ | exact wk_cond _ _ _ _ _ | refine wk_b fun _ => ?_)
@[simp ↓] theorem wk_qNew (f : Env → Res (D × Env)) (fs : Env → Res (List (Bool × D) × Env)) : Wk (qNew f fs ρ) Qq tq = Wk (f ρ) fun r1 => Wk (fs r1.2) fun r2 => Qq ((true, r1.1) :: r2.1, r2.2) := by rw [r_qNew]; repeat' (first | exact wk_ok _ _ _ | exact wk_cond _ _ _ _ _ | refine wk_b fun _ => ?_)
@[simp ↓] theorem wk_sPar (is : List (Nat × Bool)) (fq : Env → Res (List (Bool × D) × Env)) : Wk (sPar is fq ρ) Qs ts = Wk (fq ρ) fun r => Wk (ofOpt (stsQ r.2 is r.1)) fun ρ' => Qs (.nx, ρ') := by rw [r_sPar]; repeat' (first | exact wk_ok _ _ _ | exact wk_cond _ _ _ _ _ | refine wk_b fun _ => ?_)
@[simp ↓] theorem wk_sStL (f o i : SE) : Wk (sStL f o i ρ) Qs ts = Wk (f ρ) fun r => Wk (ofOpt (valOf r.1)) fun d => Wk (o r.2) fun r1 => Wk (ofOpt (plcOf r1.1)) fun s => Wk (i r1.2) fun r2 => Wk (ofOpt (asI r2.1)) fun k => Wk (ofOpt (gt r2.2 s)) fun l => Wk (ofOpt (setAt k d l)) fun l' => Qs (.nx, st r2.2 s (some l')) := by rw [r_sStL]; repeat' (first | exact wk_ok _ _ _ | exact wk_cond _ _ _ _ _ | refine wk_b fun _ => ?_)
@[simp ↓] theorem wk_eApp (f g : SE) : Wk (eApp f g ρ) Q t = Wk (f ρ) fun r => Wk (ofOpt (plcOf r.1)) fun i => Wk (ofOpt (gt r.2 i)) fun d0 => Wk (ofOpt (eApp.seqLst d0)) fun _ => Wk (g r.2) fun r2 => Wk (ofOpt (valOf r2.1)) fun d => Wk (ofOpt (gt r2.2 i)) fun l => Wk (ofOpt (addTo d l)) fun l' => Q (.val .non, st r2.2 i (some l')) := by rw [r_eApp]; repeat' (first | exact wk_ok _ _ _ | exact wk_cond _ _ _ _ _ | refine wk_b fun _ => ?_)
theorem shield_v (b : Bool) (F : FS) (ds : List D) (Q : D → Prop) : (Wk (shield b (F.m ds)) fun o => Q o.1) = Wk (shV b (F.v ds)) Q := by
  unfold FS.v shV
  cases F.m ds with
  | err c p =>
    refine propext ⟨fun ⟨_, h, _⟩ => ?_, fun ⟨_, h, _⟩ => (nomatch h)⟩
    have h' : (bif b || p.flat then .err c p else .stuck : Res (D × List D)) = _ := h
    cases hc : (b || p.flat) <;> rw [hc] at h' <;> cases h'
  | stuck => exact propext ⟨fun ⟨_, h, _⟩ => (nomatch h), fun ⟨_, h, _⟩ => (nomatch h)⟩
  | ok o =>
    show (Wk (bif b || o.1.flat then .ok o else .stuck : Res (D × List D)) fun o => Q o.1) = Wk (bif b || o.1.flat then .ok o.1 else .stuck : Res D) Q
    cases hc : (b || o.1.flat)
    · exact propext ⟨fun ⟨_, h, _⟩ => (nomatch h), fun ⟨_, h, _⟩ => (nomatch h)⟩
    · show Wk (.ok o) _ = Wk (.ok o.1) _
      rw [wk_ok, wk_ok]
@[simp ↓] theorem wk_eCall (F : FS) (fs : Env → Res (List DV × Env)) : Wk (eCall F fs ρ) Q t = Wk (fs ρ) fun r => Wk (ofOpt (rdA r.2 r.1)) fun ds => Wk (gd (decide (ds.length = F.np))) fun _ => Wk (shV (noPl r.1) (F.v ds)) fun d => Q (.val d, r.2) := by
  rw [r_eCall]
  refine wk_b fun r => wk_b fun ds => wk_b fun _ => ?_
  rw [wk_bind]
  exact (wk_b0 fun _ => wk_ok _ _ _).trans (shield_v (noPl r.1) F ds fun d => Q (.val d, r.2))
@[simp ↓] theorem wk_eCallC (F : FS) (fs : Env → Res (List DV × Env)) : Wk (eCallC F fs ρ) Q t = Wk (fs ρ) fun r => Wk (ofOpt (lentOf r.1)) fun l => Wk (ofOpt (gt r.2 l.1)) fun d0 => Wk (ofOpt (rdA r.2 l.2)) fun ds => Wk (gd (decide (ds.length + 1 = F.np))) fun _ => Wk (gd (!hasPl l.1 l.2)) fun _ =>
  Wk (shield (noPl l.2) (F.m (d0 :: ds))) fun o => Wk (ofOpt (okLent (noPl l.2) o.2)) fun d => Q (.val o.1, st r.2 l.1 (some d)) := by rw [r_eCallC]; repeat' (first | exact wk_ok _ _ _ | exact wk_cond _ _ _ _ _ | refine wk_b fun _ => ?_)
@[simp ↓] theorem wk_fCall (F : FF) (fs : Env → Res (List DV × Env)) : Wk (fCall F fs ρ) Qd td = Wk (fs ρ) fun r => Wk (ofOpt (vals r.1)) fun ds => Wk (gd (decide (ds.length = F.np))) fun _ => Wk (F.m ds) fun d => Qd (d, r.2) := by
  have e : fCall F fs ρ = (fs ρ >>= fun r => ofOpt (vals r.1) >>= fun ds => gd (decide (ds.length = F.np)) >>= fun _ => F.m ds >>= fun d => .ok (d, r.2)) := rfl
  rw [e]; repeat' (first | exact wk_ok _ _ _ | exact wk_cond _ _ _ _ _ | refine wk_b fun _ => ?_)
@[simp ↓] theorem wk_eCall0 (F : FS) : Wk (eCall0 F ρ) Q t = Wk (gd (decide (F.np = 0))) fun _ => Wk (F.v []) fun d => Q (.val d, ρ) := by
  have e : eCall0 F ρ = (gd (decide (F.np = 0)) >>= fun _ => noErr0 (F.m []) >>= fun d => .ok (.val d, ρ)) := rfl
  rw [e]
  refine wk_b fun _ => ?_
  rw [wk_v, wk_bind]
  cases F.m [] with
  | ok o => show Wk (.ok o.1) _ = _; rw [wk_ok, wk_ok, wk_ok]
  | err c p => exact propext ⟨fun ⟨_, h, _⟩ => (nomatch h), fun ⟨_, h, _⟩ => (nomatch h)⟩
  | stuck => exact propext ⟨fun ⟨_, h, _⟩ => (nomatch h), fun ⟨_, h, _⟩ => (nomatch h)⟩
@[simp ↓] theorem wk_eJoin (f g : SE) : Wk (eJoin f g ρ) Q t = Wk (f ρ) fun r => Wk (ofOpt (asS r.1)) fun s => Wk (g r.2) fun r2 => Wk (deref r2.2 r2.1) fun d => Wk (ofOpt (dJoin (.str s) d)) fun d' => Q (.val d', r2.2) := by
  have e : eJoin f g ρ = (f ρ >>= fun r => ofOpt (asS r.1) >>= fun s => g r.2 >>= fun r2 => deref r2.2 r2.1 >>= fun d => ofOpt (dJoin (.str s) d) >>= fun d' => .ok (.val d', r2.2)) := rfl
  rw [e]; repeat' (first | exact wk_ok _ _ _ | exact wk_cond _ _ _ _ _ | refine wk_b fun _ => ?_)
@[simp] theorem q_asS (s : List Nat) : asS (.val (.str s)) = some s := nr rfl
/-- the end of a body -/
def endB (np : Nat) (bor : List Nat) (r : Fl × Env) : Res (D × List D) := match r.1 with
  | .nx => outB np bor .non r.2
  | .ret d => outB np bor d r.2
  | _ => .stuck
@[simp] theorem endB_nx (np : Nat) (bor : List Nat) (ρ : Env) : endB np bor (.nx, ρ) = outB np bor .non ρ := nr rfl
@[simp] theorem endB_ret (np : Nat) (bor : List Nat) (d : D) (ρ : Env) : endB np bor (.ret d, ρ) = outB np bor d ρ := nr rfl
@[simp ↓] theorem wk_runB (n np : Nat) (bor : List Nat) (B : SS) (ds : List D) : Wk (runB n np bor B ds) Qo to = Wk (B (start0 n ds)) fun r => Wk (endB np bor r) Qo to := by
  have e : runB n np bor B ds = (B (start0 n ds) >>= fun r => endB np bor r) := rfl
  rw [e, wk_bind]
def endF (r : D × Env) : D := r.1
@[simp ↓] theorem wk_runBF (n : Nat) (B : Env → Res (D × Env)) (ds : List D) : Wk (runBF n B ds) Qr tr = Wk (B (start0 n ds)) fun r => Qr r.1 := by
  have e : runBF n B ds = (B (start0 n ds) >>= fun r => .ok r.1) := rfl
  rw [e]; repeat' (first | exact wk_ok _ _ _ | exact wk_cond _ _ _ _ _ | refine wk_b fun _ => ?_)
def fNext (g : Env → Res (D × Env)) (r : Fl × Env) : Res (D × Env) := match r.1 with
  | .nx => g r.2
  | _ => .stuck
@[simp ↓] theorem wk_fNext (g : Env → Res (D × Env)) (ρ : Env) : Wk (fNext g (.nx, ρ)) Qd td = Wk (g ρ) Qd td := nr rfl
@[simp ↓] theorem wk_fSeq (f : SS) (g : Env → Res (D × Env)) : Wk (fSeq f g ρ) Qd td = Wk (f ρ) fun r => Wk (fNext g r) Qd td := by
  have e : fSeq f g ρ = (f ρ >>= fun r => fNext g r) := rfl
  rw [e, wk_bind]
@[simp] theorem q_start0 (n : Nat) (ds : List D) : start0 n ds = ds.map some ++ List.replicate (n - ds.length) none := nr rfl
/-- a comprehension behind what it runs over -/
def lcR (vs : List Nat) (g : D → Env → Res Env) (cnd : Env → Res (Bool × Env)) (elt : SE) (xs : List D) (ρ : Env) : Res (D × Env) := lcL vs g cnd elt xs ρ >>= fun r2 => .ok (.lst r2.1, restE ρ r2.2 vs)
@[simp ↓] theorem wk_fLc (vs : List Nat) (fi : Env → Res (List D × Env)) (g : D → Env → Res Env) (cnd : Env → Res (Bool × Env)) (elt : SE) : Wk (fLc vs fi g cnd elt ρ) Qd td = Wk (fi ρ) fun r => Wk (ofOpt (lim r.1.length)) fun _ => Wk (lcR vs g cnd elt r.1 r.2) Qd td := by
  have e : fLc vs fi g cnd elt ρ = (fi ρ >>= fun r => ofOpt (lim r.1.length) >>= fun _ => lcR vs g cnd elt r.1 r.2) := rfl
  rw [e]
  exact wk_b fun r => wk_b fun _ => rfl
@[simp] theorem q_wipe0 : wipeE ρ [] = ρ := nr rfl
@[simp] theorem q_wipeS (i : Nat) (vs : List Nat) : wipeE ρ (i :: vs) = st (wipeE ρ vs) i none := nr rfl
@[simp] theorem q_rest0 (ρ2 : Env) : restE ρ ρ2 [] = ρ2 := nr rfl
@[simp] theorem q_restS (ρ2 : Env) (i : Nat) (vs : List Nat) : restE ρ ρ2 (i :: vs) = st (restE ρ ρ2 vs) i (gt ρ i) := nr rfl
@[simp ↓] theorem wk_gTupD (n : Nat) (gs : List D → Env → Res Env) (ds : List D) : Wk (gTupD n gs (.tup ds) ρ) Qe te = Wk (gd (decide (ds.length = n))) fun _ => Wk (gs ds ρ) Qe te := by
  have e : gTupD n gs (.tup ds) ρ = if ds.length = n then gs ds ρ else .stuck := rfl
  rw [e]
  by_cases h : ds.length = n
  · rw [if_pos h, decide_eq_true h]
    show _ = Wk (.ok ()) _
    rw [wk_ok]
  · rw [if_neg h, decide_eq_false h]
    exact propext ⟨fun ⟨_, h, _⟩ => (nomatch h), fun ⟨_, h, _⟩ => (nomatch h)⟩
@[simp ↓] theorem wk_gsNil : Wk (gsNil [] ρ) Qe te = Qe ρ := wk_ok _ _ _
@[simp ↓] theorem wk_gsCons (g : D → Env → Res Env) (gs : List D → Env → Res Env) (d : D) (ds : List D) : Wk (gsCons g gs (d :: ds) ρ) Qe te = Wk (g d ρ) fun ρ' => Wk (gs ds ρ') Qe te := by
  have e : gsCons g gs (d :: ds) ρ = (g d ρ >>= fun ρ' => gs ds ρ') := rfl
  rw [e, wk_bind]
@[simp ↓] theorem wk_cYes : Wk (cYes ρ) Qb tb = Qb (true, ρ) := wk_ok _ _ _

/-! ### loops and comprehensions -/
theorem wk_for {α : Type} {g : D → Env → Res Env} {B : SS} {xs : List D} {ρ : Env} {Q : Fl × Env → Prop} {t : Hid Q} (ts : List α) (e : α → D) (I : List α → Env → Prop) (hx : xs = ts.map e) (h0 : I ts ρ)
    (step : ∀ t rest ρ, I (t :: rest) ρ → Wk (g (e t) ρ) fun ρ1 => Wk (B ρ1) fun r => match r.1 with | .nx => Hold (I rest r.2) | .cont => Hold (I rest r.2) | .brk => Q (.nx, r.2) | .ret v => Q (.ret v, r.2))
    (fin : ∀ ρ, I [] ρ → Q (.nx, ρ)) : Wk (forL g B xs ρ) Q t := by
  subst hx
  refine forL_w ts ρ h0 (fun t rest ρ i => ?_) fin
  obtain ⟨ρ1, h1, ⟨fl, ρ2⟩, h2, h3⟩ := step t rest ρ i
  refine ⟨ρ1, fl, ρ2, h1, h2, ?_⟩
  cases fl <;> exact h3
/-- a comprehension that changes nothing -/
theorem wk_lc {α : Type} {vs : List Nat} {g : D → Env → Res Env} {cnd : Env → Res (Bool × Env)} {elt : SE} {xs : List D} {ρ : Env} {Q : D × Env → Prop} {t : Hid Q} (ts : List α) (e : α → D) (p : α → Bool) (f : α → D) (hx : xs = ts.map e)
    (h : ∀ t, t ∈ ts → Wk (g (e t) (wipeE ρ vs)) fun ρ1 => Same vs ρ ρ1 ∧ Wk (cnd ρ1) fun r => r = (p t, ρ1) ∧ (p t = true → Wk (elt ρ1) fun r => r = (.val (f t), ρ1)))
    (q : Q (.lst ((ts.filter p).map f), ρ)) : Wk (lcR vs g cnd elt xs ρ) Q t := by
  subst hx
  obtain ⟨ρ', s', h4⟩ := lcL_pure (cnd := cnd) (elt := elt) (p := p) (f := f) ts ρ (Same.refl vs ρ) fun t ht => by
    obtain ⟨ρ1, h1, h2, r, h3, h5, h6⟩ := h t ht
    refine ⟨ρ1, h1, h2, h3.trans (by rw [h5]), fun hp => ?_⟩
    exact Wk.ok_iff.mp (h6 hp)
  refine ⟨_, ?_, q⟩
  unfold lcR
  rw [h4]
  simp only [ok_bind, s'.rest]
theorem wk_map {α : Type} {vs : List Nat} {g : D → Env → Res Env} {elt : SE} {xs : List D} {ρ : Env} {Q : D × Env → Prop} {t : Hid Q} (ts : List α) (e : α → D) (f : α → D) (hx : xs = ts.map e)
    (h : ∀ t, t ∈ ts → Wk (g (e t) (wipeE ρ vs)) fun ρ1 => Same vs ρ ρ1 ∧ Wk (elt ρ1) fun r => r = (.val (f t), ρ1))
    (q : Q (.lst (ts.map f), ρ)) : Wk (lcR vs g cYes elt xs ρ) Q t := by
  refine wk_lc ts e (fun _ => true) f hx (fun t ht => ?_) (by rw [filter_yes]; exact q)
  obtain ⟨ρ1, h1, h2, h3⟩ := h t ht
  exact ⟨ρ1, h1, h2, ⟨_, rfl, rfl, fun _ => h3⟩⟩
/-- .. of one name -/
theorem wk_map1 {α : Type} {i : Nat} {elt : SE} {xs : List D} {ρ : Env} {Q : D × Env → Prop} {t : Hid Q} (ts : List α) (e : α → D) (f : α → D) (hx : xs = ts.map e)
    (h : ∀ t, t ∈ ts → Wk (elt (w1 ρ i (e t))) fun r => r = (.val (f t), w1 ρ i (e t))) (q : Q (.lst (ts.map f), ρ)) : Wk (lcR [i] (gNm i) cYes elt xs ρ) Q t :=
  wk_map ts e f hx (fun t ht => ⟨_, rfl, (same_wipe [i] ρ).st (by simp), h t ht⟩) q
theorem wk_flt1 {α : Type} {i : Nat} {cnd : Env → Res (Bool × Env)} {elt : SE} {xs : List D} {ρ : Env} {Q : D × Env → Prop} {t : Hid Q} (ts : List α) (e : α → D) (p : α → Bool) (f : α → D) (hx : xs = ts.map e)
    (h : ∀ t, t ∈ ts → Wk (cnd (w1 ρ i (e t))) fun r => r = (p t, w1 ρ i (e t)) ∧ (p t = true → Wk (elt (w1 ρ i (e t))) fun r => r = (.val (f t), w1 ρ i (e t)))) (q : Q (.lst ((ts.filter p).map f), ρ)) : Wk (lcR [i] (gNm i) cnd elt xs ρ) Q t :=
  wk_lc ts e p f hx (fun t ht => ⟨_, rfl, (same_wipe [i] ρ).st (by simp), h t ht⟩) q
/-- .. of two -/
theorem wk_map2 {α : Type} {i j : Nat} {elt : SE} {xs : List D} {ρ : Env} {Q : D × Env → Prop} {t : Hid Q} (ts : List α) (a b f : α → D) (hx : xs = ts.map fun t => .tup [a t, b t])
    (h : ∀ t, t ∈ ts → Wk (elt (w2 ρ i j (a t) (b t))) fun r => r = (.val (f t), w2 ρ i j (a t) (b t))) (q : Q (.lst (ts.map f), ρ)) : Wk (lcR [i, j] (gTupD 2 (gsCons (gNm i) (gsCons (gNm j) gsNil))) cYes elt xs ρ) Q t :=
  wk_map ts _ f hx (fun t ht => ⟨_, g2_ok _ _ _, ((same_wipe [i, j] ρ).st (by simp)).st (by simp), h t ht⟩) q
theorem wk_flt2 {α : Type} {i j : Nat} {cnd : Env → Res (Bool × Env)} {elt : SE} {xs : List D} {ρ : Env} {Q : D × Env → Prop} {t : Hid Q} (ts : List α) (a b : α → D) (p : α → Bool) (f : α → D) (hx : xs = ts.map fun t => .tup [a t, b t])
    (h : ∀ t, t ∈ ts → Wk (cnd (w2 ρ i j (a t) (b t))) fun r => r = (p t, w2 ρ i j (a t) (b t)) ∧ (p t = true → Wk (elt (w2 ρ i j (a t) (b t))) fun r => r = (.val (f t), w2 ρ i j (a t) (b t)))) (q : Q (.lst ((ts.filter p).map f), ρ)) : Wk (lcR [i, j] (gTupD 2 (gsCons (gNm i) (gsCons (gNm j) gsNil))) cnd elt xs ρ) Q t :=
  wk_lc ts _ p f hx (fun t ht => ⟨_, g2_ok _ _ _, ((same_wipe [i, j] ρ).st (by simp)).st (by simp), h t ht⟩) q
/-- .. that changes slots -/
theorem lcL_I {α : Type} {vs : List Nat} {g : D → Env → Res Env} {cnd : Env → Res (Bool × Env)} {elt : SE} {e : α → D} {J : List α → List D → Env → Prop} : ∀ (ts : List α) (acc : List D) (ρ : Env), J ts acc ρ →
    (∀ t rest acc ρ, J (t :: rest) acc ρ → Wk (g (e t) (wipeE ρ vs)) fun ρ1 => Wk (cnd ρ1) fun r => bif r.1 then Wk (elt r.2) fun r2 => Wk (ofOpt (valOf r2.1)) fun d => Hold (J rest (acc ++ [d]) r2.2) else Hold (J rest acc r.2)) →
    ∃ ds ρ', lcL vs g cnd elt (ts.map e) ρ = .ok (ds, ρ') ∧ J [] (acc ++ ds) ρ'
  | [], acc, ρ, i, _ => ⟨[], ρ, rfl, by rw [List.append_nil]; exact i⟩
  | t :: ts, acc, ρ, i, h => by
    obtain ⟨ρ1, h1, ⟨b, ρ2⟩, h2, h3⟩ := h t ts acc ρ i
    have e0 : lcL vs g cnd elt ((t :: ts).map e) ρ = (noErr (g (e t) (wipeE ρ vs)) >>= fun ρ1 => noErr (cnd ρ1) >>= fun r => bif r.1 then noErr (elt r.2) >>= fun r2 => ofOpt (valOf r2.1) >>= fun x => lcL vs g cnd elt (ts.map e) r2.2 >>= fun r3 => .ok (x :: r3.1, r3.2) else lcL vs g cnd elt (ts.map e) r.2) := rfl
    cases b with
    | false =>
      obtain ⟨ds, ρ', h4, h5⟩ := lcL_I ts acc ρ2 h3 h
      refine ⟨ds, ρ', ?_, h5⟩
      rw [e0, h1]
      simp only [r_noErr, ok_bind, h2, cond_false, h4]
    | true =>
      obtain ⟨⟨dv, ρ3⟩, h6, d, h7, h8⟩ := h3
      obtain ⟨ds, ρ', h4, h5⟩ := lcL_I ts (acc ++ [d]) ρ3 h8 h
      refine ⟨d :: ds, ρ', ?_, by rw [List.append_assoc] at h5; exact h5⟩
      have h6' : elt ρ2 = .ok (dv, ρ3) := h6
      have h7' : ofOpt (valOf dv) = .ok d := h7
      rw [e0, h1]
      simp only [r_noErr, ok_bind, h2, cond_true, h6', h7', h4]
theorem wk_lcI {α : Type} {vs : List Nat} {g : D → Env → Res Env} {cnd : Env → Res (Bool × Env)} {elt : SE} {xs : List D} {ρ : Env} {Q : D × Env → Prop} {t : Hid Q} (ts : List α) (e : α → D) (J : List α → List D → Env → Prop) (hx : xs = ts.map e) (h0 : J ts [] ρ)
    (step : ∀ t rest acc ρ, J (t :: rest) acc ρ → Wk (g (e t) (wipeE ρ vs)) fun ρ1 => Wk (cnd ρ1) fun r => bif r.1 then Wk (elt r.2) fun r2 => Wk (ofOpt (valOf r2.1)) fun d => Hold (J rest (acc ++ [d]) r2.2) else Hold (J rest acc r.2))
    (fin : ∀ ds ρ', J [] ds ρ' → Q (.lst ds, restE ρ ρ' vs)) : Wk (lcR vs g cnd elt xs ρ) Q t := by
  subst hx
  obtain ⟨ds, ρ', h1, h2⟩ := lcL_I (vs := vs) (g := g) (cnd := cnd) (elt := elt) ts [] ρ h0 step
  refine ⟨_, ?_, fin ds ρ' h2⟩
  unfold lcR
  rw [h1]
  rfl
end EV

namespace EV
open PySem PySem.Spec L2 SX
open PyProof.Rows hiding St
@[simp] theorem q_w1 (ρ : Env) (i : Nat) (d : D) : w1 ρ i d = st (st ρ i none) i (some d) := nr rfl
@[simp] theorem q_w2 (ρ : Env) (i j : Nat) (a b : D) : w2 ρ i j a b = st (st (st (st ρ j none) i none) i (some a)) j (some b) := nr rfl
/-! ### slices and small data -/
theorem cut_le {α : Type} (xs : List α) (lo hi : Option Int) : (cut xs lo hi).length ≤ xs.length := by
  unfold cut
  rw [List.length_take, List.length_drop]
  omega
theorem smL_cons (d : D) (ds : List D) : smL (d :: ds) = (d.sm && smL ds) := rfl
theorem smL_app : ∀ a b : List D, smL (a ++ b) = (smL a && smL b)
  | [], b => rfl
  | x :: a, b => by
    show (x.sm && smL (a ++ b)) = ((x.sm && smL a) && smL b)
    rw [smL_app a b, Bool.and_assoc]
theorem smL_cut {xs : List D} (lo hi : Option Int) (h : smL xs = true) : smL (cut xs lo hi) = true := smL_of fun d hd => smL_mem h d (cut_mem hd)
theorem tup_sm {xs : List D} (h1 : xs.length ≤ 1000) (h2 : smL xs = true) : (D.tup xs).sm = true := by
  show (decide (xs.length ≤ 1000) && smL xs) = true
  rw [decide_eq_true h1, h2]
  rfl
theorem lst_sm {xs : List D} (h1 : xs.length ≤ 1000) (h2 : smL xs = true) : (D.lst xs).sm = true := tup_sm h1 h2
theorem repl_len {α : Type} (n : Nat) (xs : List α) : (List.replicate n xs).flatten.length = n * xs.length := by
  induction n with
  | zero => simp
  | succ n ih => rw [List.replicate_succ, List.flatten_cons, List.length_append, ih, Nat.succ_mul, Nat.add_comm]
theorem smL_rep {xs : List D} (n : Nat) (h : smL xs = true) : smL (List.replicate n xs).flatten = true := by
  induction n with
  | zero => rfl
  | succ n ih => rw [List.replicate_succ, List.flatten_cons, smL_app, h, ih]; rfl
end EV
namespace EV
open PySem PySem.Spec L2 SX
open PyProof.Rows hiding St
/-! ### loops that count -/
theorem wk_forN {g : D → Env → Res Env} {B : SS} {xs : List D} {ρ : Env} {Q : Fl × Env → Prop} {t : Hid Q} (n : Nat) (e : Nat → D) (I : Nat → Env → Prop) (hx : xs = (List.range n).map e) (h0 : I 0 ρ)
    (step : ∀ k ρ, k < n → I k ρ → Wk (g (e k) ρ) fun ρ1 => Wk (B ρ1) fun r => match r.1 with | .nx => Hold (I (k + 1) r.2) | .cont => Hold (I (k + 1) r.2) | .brk => Q (.nx, r.2) | .ret v => Q (.ret v, r.2))
    (fin : ∀ ρ, I n ρ → Q (.nx, ρ)) : Wk (forL g B xs ρ) Q t := by
  refine wk_for (List.range n) e (fun rest ρ => ∃ k, k + rest.length = n ∧ rest = List.range' k rest.length ∧ I k ρ) hx ⟨0, by simp, by simp [List.range_eq_range'], h0⟩ ?_ ?_
  · rintro k rest ρ ⟨j, hl, hr, hi⟩
    rw [List.length_cons] at hl hr
    rw [List.range'_succ] at hr
    injection hr with e1 e2
    subst e1
    refine (step k ρ (by omega) hi).mono fun ρ1 h => h.mono fun r h => ?_
    cases hf : r.1 with
    | nx => rw [hf] at h; exact ⟨k + 1, by omega, e2, h⟩
    | cont => rw [hf] at h; exact ⟨k + 1, by omega, e2, h⟩
    | brk => rw [hf] at h; exact h
    | ret v => rw [hf] at h; exact h
  · rintro ρ ⟨k, hl, hr, hi⟩
    rw [List.length_nil] at hl
    obtain rfl : k = n := by omega
    exact fin ρ hi
theorem wk_lcN {vs : List Nat} {g : D → Env → Res Env} {cnd : Env → Res (Bool × Env)} {elt : SE} {xs : List D} {ρ : Env} {Q : D × Env → Prop} {t : Hid Q} (n : Nat) (e : Nat → D) (J : Nat → List D → Env → Prop) (hx : xs = (List.range n).map e) (h0 : J 0 [] ρ)
    (step : ∀ k acc ρ, k < n → J k acc ρ → Wk (g (e k) (wipeE ρ vs)) fun ρ1 => Wk (cnd ρ1) fun r => bif r.1 then Wk (elt r.2) fun r2 => Wk (ofOpt (valOf r2.1)) fun d => Hold (J (k + 1) (acc ++ [d]) r2.2) else Hold (J (k + 1) acc r.2))
    (fin : ∀ ds ρ', J n ds ρ' → Q (.lst ds, restE ρ ρ' vs)) : Wk (lcR vs g cnd elt xs ρ) Q t := by
  refine wk_lcI (List.range n) e (fun rest acc ρ => ∃ k, k + rest.length = n ∧ rest = List.range' k rest.length ∧ J k acc ρ) hx ⟨0, by simp, by simp [List.range_eq_range'], h0⟩ ?_ ?_
  · rintro k rest acc ρ ⟨j, hl, hr, hi⟩
    rw [List.length_cons] at hl hr
    rw [List.range'_succ] at hr
    injection hr with e1 e2
    subst e1
    refine (step k acc ρ (by omega) hi).mono fun ρ1 h => h.mono fun r h => ?_
    cases hf : r.1 with
    | true =>
      rw [hf] at h
      have h' : Wk (elt r.2) fun r2 => Wk (ofOpt (valOf r2.1)) fun d => Hold (J (k + 1) (acc ++ [d]) r2.2) := h
      exact Wk.mono (t' := .mk _) h' fun r2 h => Wk.mono (t' := .mk _) h fun d h => ⟨k + 1, by omega, e2, h⟩
    | false =>
      rw [hf] at h
      exact ⟨k + 1, by omega, e2, h⟩
  · rintro ds ρ' ⟨k, hl, hr, hi⟩
    rw [List.length_nil] at hl
    obtain rfl : k = n := by omega
    exact fin ds ρ' hi
end EV

namespace LK80
open PySem PySem.Spec L2 SX EV
/-! ### values near a pack -/
theorem rollW {c : D} {n : Int} (hc : CupI c) (hn : 0 < n) (hn2 : n < 1073741824) : Wk (m__law_roll.m [c, .int n]) fun r => ∃ i c', r = (.int i, [c', .int n]) ∧ 0 ≤ i ∧ i < n ∧ CupI c' := by
  obtain ⟨r, c', h0, h1, h2, e⟩ := roll_ok hc hn hn2
  exact .eq e ⟨r, c', rfl, h0, h1, h2⟩
theorem four {α : Type} {l : List α} (h : l.length = 4) : ∃ a b c d, l = [a, b, c, d] := by
  match l, h with
  | [a, b, c, d], _ => exact ⟨a, b, c, d, rfl⟩
theorem pk_at {pk : List (List Nat × List (List Nat))} {r : Int} (h0 : 0 ≤ r) (h1 : r < pk.length) : ∃ t, t ∈ pk ∧ L2.atI (pD pk) r = some (tab t.1 t.2) := by
  have : r.toNat < pk.length := by omega
  refine ⟨pk[r.toNat], List.getElem_mem _, ?_⟩
  unfold L2.atI
  rw [ixN_of h0 (by rw [pD_len]; exact h1)]
  show (pD pk)[r.toNat]? = _
  unfold pD
  rw [List.getElem?_map, List.getElem?_eq_getElem this]
  rfl
theorem near_ok {c : D} {pk : List (List Nat × List (List Nat))} (hc : CupI c) (hp : PkP pk) : Wk (m__law_near.m [c, .tup (pD pk)]) fun r => ∃ xs c', r = (.lst xs, [c', .tup (pD pk)]) ∧ CupI c' ∧ 0 < xs.length ∧ xs.length ≤ 1000 ∧ smL xs = true := by
  have h1 := hp.hi
  have h2 := hp.lo
  have hl := pD_len pk
  rw [me__law_near]
  simp [B__law_near]
  rw [hl]
  refine (rollW hc (by omega) (by omega)).mono ?_
  rintro _ ⟨r, c', rfl, h0, h3, hc'⟩
  obtain ⟨⟨s, l⟩, ht, e1⟩ := pk_at h0 h3
  have tp := hp.tabs _ ht
  obtain ⟨a1, a2, a3, a4, e4⟩ := four tp.len
  obtain rfl : l = [a1, a2, a3, a4] := e4
  have e2 : cut [D.str a1, D.str a2, D.str a3, D.str a4] (some 1) none = [D.str a2, D.str a3, D.str a4] := rfl
  have e3 : cut [D.str a1, D.str a2, D.str a3, D.str a4] none (some 1) = [D.str a1] := rfl
  have e5 : cut [D.str a1, D.str a2, D.str a3, D.str a4] none (some 3) = [D.str a1, D.str a2, D.str a3] := rfl
  have e6 : dMul (.str [97]) (.int 13) = some (.str (List.replicate 13 97)) := rfl
  have n0 : ∀ x, x ∈ [a1, a2, a3, a4] → (D.str x).sm = true := fun x hx => by
    have := sm_strs tp.nms
    exact smL_mem this _ (List.mem_map_of_mem hx)
  have s1 := n0 a1 (by simp)
  have s2 := n0 a2 (by simp)
  have s3 := n0 a3 (by simp)
  have s4 := n0 a4 (by simp)
  have s5 : (D.str s).sm = true := by rcases tp.side with h | h <;> (have h' : s = _ := h; rw [h']; rfl)
  simp (disch := first | omega | (simp <;> omega) | fail) [e1, tab, hc'.flatC, e2, e3, e5, r_addT, r_addL, e6]
  refine wk_map1 _ id (fun o => .tup [.str s, .tup [.str a1, .str a2, .str a3, o]]) (List.map_id _).symm (fun o _ => ?_) ?_
  · simp (disch := first | omega | (simp <;> omega) | fail) [e5, r_addT]
  obtain ⟨A, eA⟩ : ∃ A, A = cut (pD pk) none (some r) := ⟨_, rfl⟩
  obtain ⟨B, eB⟩ : ∃ B, B = cut (pD pk) (some (r + 1)) none := ⟨_, rfl⟩
  have lA : A.length ≤ 8 := by rw [eA]; have := cut_le (pD pk) none (some r); omega
  have lB : B.length ≤ 8 := by rw [eB]; have := cut_le (pD pk) (some (r + 1)) none; omega
  have sp := (sm_tup hp.sm).2
  have sA : smL A = true := by rw [eA]; exact smL_cut _ _ (smL_of sp)
  have sB : smL B = true := by rw [eB]; exact smL_cut _ _ (smL_of sp)
  have r9 : dMul (.tup (pD pk)) (.int 9) = some (.tup (rpt 9 (pD pk))) := by
    show (if repOk 9 (pD pk).length = true then some (D.tup (rpt 9 (pD pk))) else none) = _
    rw [if_pos (by unfold repOk; rw [decide_eq_true (by omega), decide_eq_true (by omega), decide_eq_true (by omega)]; rfl)]
  have l9 : (rpt 9 (pD pk)).length ≤ 72 := by
    unfold rpt
    rw [repl_len, hl]
    show 9 * _ ≤ 72
    omega
  have s9 : smL (rpt 9 (pD pk)) = true := smL_rep _ (smL_of sp)
  generalize rpt 9 (pD pk) = R9 at *
  simp (disch := first | omega | (simp <;> omega) | fail) [r_addT, r_addL]
  refine wk_map1 _ id (fun o => .tup (A ++ [o] ++ B)) (List.map_id _).symm (fun o _ => ?_) ?_
  · simp (disch := first | omega | (simp <;> omega) | fail) [← eA, ← eB, r_addT, r_addL]
  simp (disch := first | omega | (simp <;> omega) | fail) [r_addT, r_addL, r9, e1]
  have sP := smL_of sp
  have q1 := sm_str s1
  have q2 := sm_str s2
  have q3 := sm_str s3
  have q4 := sm_str s4
  have q5 := sm_str s5
  clear e1 e2 e3 e5 e6 n0 s1 s2 s3 s4 s5 r9
  refine ⟨_, _, ⟨rfl, rfl⟩, hc', by simp, by simp, ?_⟩
  simp [D.sm, smL, smL_app, sA, sB, s9, sP, tab, hl]
  omega
end LK80

namespace LK80
open PySem PySem.Spec L2 SX EV
theorem rep_ok {xs : List D} {k : Int} (h0 : 0 ≤ k) (h1 : k ≤ 1000) (h : xs.length ≤ 1000) : dMul (.tup xs) (.int k) = some (.tup (rpt k xs)) := by
  show (if repOk k xs.length = true then some (D.tup (rpt k xs)) else none) = _
  rw [if_pos (by unfold repOk; rw [decide_eq_true (by omega), decide_eq_true (by omega), decide_eq_true (by omega)]; rfl)]
theorem smL_rev {xs : List D} (h : smL xs = true) : smL xs.reverse = true := smL_of fun d hd => smL_mem h d (List.mem_reverse.mp hd)
theorem near_rows_ok {c : D} {pk : List (List Nat × List (List Nat))} {rows : List (List Int)} (hc : CupI c) (hp : PkP pk) (hr : RwP pk.length rows) : Wk (m__law_near_rows.m [c, .tup (pD pk), .tup (rD rows)]) fun r => ∃ xs c', r = (.lst xs, [c', .tup (pD pk), .tup (rD rows)]) ∧ CupI c' ∧ 0 < xs.length ∧ xs.length ≤ 1000 ∧ smL xs = true := by
  have h1 := hp.hi
  have h2 := hp.lo
  have h3 := hr.hi
  have hl := pD_len pk
  have hl2 := rD_len rows
  rw [me__law_near_rows]
  simp (disch := first | omega | (simp <;> omega) | fail) [B__law_near_rows]
  refine (rollW hc (by omega) (by omega)).mono ?_
  rintro _ ⟨r, c', rfl, h0, h4, hc'⟩
  simp (disch := first | omega | (simp <;> omega) | fail) [hc'.flatC]
  refine wk_map1 pk (fun t => tab t.1 t.2) (fun _ => .int 1) rfl (fun o _ => ?_) ?_
  · simp (disch := first | omega | (simp <;> omega) | fail) []
  obtain ⟨R, eR⟩ : ∃ R, R = pk.map fun _ => D.int 1 := ⟨_, rfl⟩
  have lR : R.length ≤ 8 := by rw [eR, List.length_map]; omega
  have sR : smL R = true := by rw [eR]; exact smL_of fun d hd => by obtain ⟨_, _, rfl⟩ := List.mem_map.mp hd; rfl
  rw [← eR]
  simp (disch := first | omega | (simp <;> omega) | fail) []
  clear eR
  obtain ⟨A, eA⟩ : ∃ A, A = cut R (some 1) none := ⟨_, rfl⟩
  have lA : A.length ≤ 8 := by rw [eA]; have := cut_le R (some 1) none; omega
  have sA : smL A = true := by rw [eA]; exact smL_cut _ _ sR
  have sp' := smL_of (sm_tup (hr.sm (show pk.length ≤ 1000 by omega))).2
  obtain ⟨B, eB⟩ : ∃ B, B = cut (rD rows) none (some r) := ⟨_, rfl⟩
  obtain ⟨E, eE⟩ : ∃ E, E = cut (rD rows) (some r) none := ⟨_, rfl⟩
  have lB : B.length ≤ 40 := by rw [eB]; have := cut_le (rD rows) none (some r); omega
  have lE : E.length ≤ 40 := by rw [eE]; have := cut_le (rD rows) (some r) none; omega
  have sB : smL B = true := by rw [eB]; exact smL_cut _ _ sp'
  have sE : smL E = true := by rw [eE]; exact smL_cut _ _ sp'
  simp (disch := first | omega | (simp <;> omega) | fail) [← eA, r_addT, r_addL]
  refine wk_map1 _ id (fun o => .tup (B ++ [o] ++ E)) (List.map_id _).symm (fun o _ => ?_) ?_
  · simp (disch := first | omega | (simp <;> omega) | fail) [← eB, ← eE, r_addT]
  have r1 : dMul (.tup [.tup R]) (.int 40) = some (.tup (rpt 40 [D.tup R])) := rep_ok (by omega) (by omega) (by simp)
  have r2 : dMul (.tup [.tup R]) (.int 41) = some (.tup (rpt 41 [D.tup R])) := rep_ok (by omega) (by omega) (by simp)
  have sR1 : smL [.tup R] = true := by simp [smL, D.sm, sR]; omega
  have l1 : (rpt 40 [D.tup R]).length ≤ 40 := by unfold rpt; rw [repl_len]; exact Nat.le_refl _
  have l2 : (rpt 41 [D.tup R]).length ≤ 41 := by unfold rpt; rw [repl_len]; exact Nat.le_refl _
  have s1 : smL (rpt 40 [D.tup R]) = true := smL_rep _ sR1
  have s2 : smL (rpt 41 [D.tup R]) = true := smL_rep _ sR1
  generalize rpt 40 [D.tup R] = X1 at *
  generalize rpt 41 [D.tup R] = X2 at *
  have s3 := smL_rev sp'
  simp (disch := first | omega | (simp <;> omega) | fail) [r1, r2, r_addL]
  refine ⟨_, _, ⟨rfl, rfl⟩, hc', by simp, by simp, ?_⟩
  clear r1 r2 eA eB eE
  simp [D.sm, smL, smL_app, sA, sB, sE, s1, s2, s3, sp', hl2, sR]
  omega
end LK80

namespace LK80
open PySem PySem.Spec L2 SX EV
theorem someW {c : D} {xs : List D} (hc : CupI c) (hn : 0 < xs.length) (hn2 : xs.length < 1073741824) : Wk (m__law_some.m [c, .lst xs]) fun r => ∃ x c', r = (x, [c', .lst xs]) ∧ x ∈ xs ∧ CupI c' := by
  obtain ⟨x, c', hx, hc', e⟩ := some_lst hc hn hn2
  exact .eq e ⟨x, c', rfl, hx, hc'⟩
/-- one drawn row -/
theorem like_v {d : D} (hs : d.sm = true) (hl : d.dep < 8) : m__law_like.v [d, d] = .ok (.bl true) := (like_ok hs hl).v
theorem col_rw (rows : List (List Int)) (k : Nat) : (rows.map fun r => D.int (r.getD k 0)) = dints (colT rows k) := by
  unfold colT
  show _ = (rows.map _).map D.int
  rw [List.map_map]
  rfl
theorem atl {α : Type} (xs : List α) (x : α) : L2.atI (xs ++ [x]) (-1) = some x := by
  have h : ixN (xs ++ [x]).length (-1) = some xs.length := by
    unfold ixN
    rw [if_neg (by decide), if_pos (by rw [List.length_append, List.length_singleton]; omega), List.length_append, List.length_singleton]
    congr 1
    omega
  unfold L2.atI
  rw [h]
  show (xs ++ [x])[xs.length]? = some x
  simp
theorem rowW {c : D} {pk : List (List Nat × List (List Nat))} {x16 : Option D} (hc : CupI c) (hp : PkP pk) {Q : D × EV.Env → Prop} {t : Hid Q}
    (q : ∀ ts c', TnI ts → ts.length = pk.length → CupI c' → Q (.lst (dints ts), [some c', some (.tup (pD pk)), none, none, none, none, none, none, none, none, none, none, none, none, none, none, x16, none, none, none, none])) :
    Wk (lcR [5] (gNm 5) cYes (eCallC m__law_some (aCons (ePlc 0) (aCons (eF (fLst (aCons (eC (.int 1)) (aCons (eC (.int 1)) (aCons (eUn dNeg (eC (.int 1))) aNil))))) aNil))) (pD pk) [some c, some (.tup (pD pk)), none, none, none, none, none, none, none, none, none, none, none, none, none, none, x16, none, none, none, none]) Q t := by
  refine wk_lcI pk (fun t => tab t.1 t.2) (fun rest acc ρ => ∃ c' y ts, CupI c' ∧ TnI ts ∧ acc = dints ts ∧ ts.length + rest.length = pk.length ∧ ρ = [some c', some (.tup (pD pk)), none, none, none, y, none, none, none, none, none, none, none, none, none, none, x16, none, none, none, none]) rfl ⟨c, none, [], hc, (fun _ h => nomatch h), rfl, by simp, rfl⟩ ?_ ?_
  · rintro t rest acc ρ ⟨c', y, ts, hc', ht, rfl, hl, rfl⟩
    simp (disch := first | omega | (simp <;> omega) | fail) []
    refine (someW hc' (by simp) (by simp)).mono ?_
    rintro _ ⟨x, c2, rfl, hx, hc2⟩
    simp (disch := first | omega | (simp <;> omega) | fail) [hc2.flatC]
    have hx' : x = .int 1 ∨ x = .int (-1) := by simpa using hx
    rw [List.length_cons] at hl
    rcases hx' with rfl | rfl
    · exact .mk ⟨c2, _, ts ++ [1], hc2, fun z hz => (List.mem_append.mp hz).elim (ht z) fun h => by simp at h; exact .inl h, by simp [dints], by simp; omega, rfl⟩
    · exact .mk ⟨c2, _, ts ++ [-1], hc2, fun z hz => (List.mem_append.mp hz).elim (ht z) fun h => by simp at h; exact .inr h, by simp [dints], by simp; omega, rfl⟩
  · rintro ds ρ' ⟨c', y, ts, hc', ht, rfl, hl, rfl⟩
    simp (disch := first | omega | (simp <;> omega) | fail) []
    exact q ts c' ht (by simpa using hl) hc'
theorem lean_law {s : List Nat} {t : Int} (hs : s = [115] ∨ s = [122]) (ht : t = 1 ∨ t = -1) : (s == (if t == 1 then [115] else [122])) = (decide (s = [115]) == decide (0 < t)) := by
  rcases hs with rfl | rfl <;> rcases ht with rfl | rfl <;> rfl
theorem pic_sm {pk : List (List Nat × List (List Nat))} {rows : List (List Int)} (hp : PkP pk) (hr : RwP pk.length rows) : (picD pk rows).sm = true ∧ (picD pk rows).dep ≤ 2 := by
  have h1 := hp.hi
  have h2 := hr.hi
  have a : ∀ r, (D.tup ((List.range pk.length).map fun k => D.str ((colAt pk rows k).getD r []))).sm = true := fun r => tup_sm (by simp; omega) (smL_of fun d hd => by
    obtain ⟨k, hk, rfl⟩ := List.mem_map.mp hd
    rw [List.mem_range] at hk
    have tp := hp.tabs _ (pkAt_mem hk)
    show decide (((colAt pk rows k).getD r []).length ≤ 1000) = true
    refine decide_eq_true ?_
    rw [List.getD_eq_getElem?_getD]
    cases q : (colAt pk rows k)[r]? with
    | none => simp
    | some y =>
      have hy := List.mem_of_getElem? q
      unfold colAt col at hy
      obtain ⟨h, hm, rfl⟩ := List.mem_map.mp hy
      have hb := hol_bound _ 0 (by decide) (by decide) h hm
      have := tp.nms (nmAt (pkAt pk k).2 h) (by
        unfold nmAt
        have hq : h.toNat < (pkAt pk k).2.length := by rw [tp.len]; omega
        rw [List.getD_eq_getElem?_getD, List.getElem?_eq_getElem hq]
        exact List.getElem_mem _)
      unfold nameB at this
      rw [Bool.and_eq_true, Bool.and_eq_true, Bool.and_eq_true, decide_eq_true_eq, decide_eq_true_eq] at this
      show (nmAt (pkAt pk k).2 h).length ≤ 1000
      omega)
  constructor
  · exact tup_sm (by simp; omega) (smL_of fun d hd => by obtain ⟨r, _, rfl⟩ := List.mem_map.mp hd; exact a r)
  · show depL _ + 1 ≤ 2
    have : ∀ l : List D, (∀ d, d ∈ l → d.dep ≤ 1) → depL l ≤ 1 := by
      intro l
      induction l with
      | nil => intro _; exact Nat.zero_le _
      | cons d l ih =>
        intro h
        show max d.dep (depL l) ≤ 1
        have h1 := h d List.mem_cons_self
        have h2 := ih fun x hx => h x (List.mem_cons_of_mem _ hx)
        omega
    have := this ((List.range rows.length).map fun r => D.tup ((List.range pk.length).map fun k => D.str ((colAt pk rows k).getD r []))) (fun d hd => by
      obtain ⟨r, _, rfl⟩ := List.mem_map.mp hd
      show depL _ + 1 ≤ 1
      have e : ((List.range pk.length).map fun k => D.str ((colAt pk rows k).getD r [])) = ((List.range pk.length).map fun k => (colAt pk rows k).getD r []).map D.str := by rw [List.map_map]; rfl
      rw [e, dep_strs]
      exact Nat.le_refl _)
    omega
theorem ln_sm {pk : List (List Nat × List (List Nat))} {rows : List (List Int)} (hp : PkP pk) (hr : RwP pk.length rows) : (lnD pk rows).sm = true ∧ (lnD pk rows).dep ≤ 2 := by
  have h1 := hp.hi
  have h2 := hr.hi
  have e : lnD pk rows = .tup ((rows.map (lnOf pk)).map D.str) := by unfold lnD; rw [List.map_map]; rfl
  rw [e]
  constructor
  · refine tup_sm (by simp; omega) (smL_of fun d hd => ?_)
    obtain ⟨y, hy, rfl⟩ := List.mem_map.mp hd
    obtain ⟨r, _, rfl⟩ := List.mem_map.mp hy
    refine decide_eq_true ?_
    unfold lnOf
    rw [List.length_map, List.length_zip]
    omega
  · show depL _ + 1 ≤ 2
    rw [dep_strs]
    decide
theorem tw_sm {pk : List (List Nat × List (List Nat))} {rows : List (List Int)} (hp : PkP pk) (hr : RwP pk.length rows) : (twD pk rows).sm = true ∧ (twD pk rows).dep ≤ 2 := by
  have h1 := hp.hi
  have e : twD pk rows = .tup (dints ((List.range pk.length).map fun k => (colT rows k).sum)) := by unfold twD dints; rw [List.map_map]; rfl
  rw [e]
  constructor
  · exact tup_sm (by simp; omega) (sm_ints _)
  · show depL _ + 1 ≤ 2
    rw [dep_ints]
    decide
theorem right_ok {c : D} {pk : List (List Nat × List (List Nat))} (hc : CupI c) (hp : PkP pk) : Wk (m__law_right.m [c, .tup (pD pk)]) fun r => ∃ c', r = (.bl true, [c', .tup (pD pk)]) ∧ CupI c' := by
  have h1 := hp.hi
  have h2 := hp.lo
  have hl := pD_len pk
  rw [me__law_right]
  simp (disch := first | omega | (simp <;> omega) | fail) [B__law_right]
  refine (rollW hc (by omega) (by omega)).mono ?_
  rintro _ ⟨r, c', rfl, h0, h4, hc'⟩
  simp (disch := first | omega | (simp <;> omega) | fail) [hc'.flatC, r_rng1]
  refine wk_lcI (List.range r.toNat) (fun k => .int k) (fun rest acc ρ => ∃ c' x rows, CupI c' ∧ RwP pk.length rows ∧ acc = rD rows ∧ rows.length + rest.length = r.toNat ∧ ρ = [some c', some (.tup (pD pk)), none, none, none, none, none, none, none, none, none, none, none, none, none, none, x, none, none, none, none]) rfl ⟨c', none, [], hc', ⟨by simp, by simp, by simp⟩, rfl, by simp, rfl⟩ ?_ ?_
  · rintro k rest acc ρ ⟨c2, x, rows, hc2, hr, rfl, hl2, rfl⟩
    simp (disch := first | omega | (simp <;> omega) | fail) []
    refine rowW hc2 hp fun ts c3 ht hl3 hc3 => ?_
    simp (disch := first | omega | (simp <;> omega) | fail) []
    rw [List.length_cons] at hl2
    refine .mk ⟨c3, _, rows ++ [ts], hc3, ⟨by simp; omega, ?_, ?_⟩, by simp [rD], by simp; omega, rfl⟩
    · intro q hq
      rcases List.mem_append.mp hq with h | h
      · exact hr.len q h
      · rw [List.mem_singleton.mp h]; exact hl3
    · intro q hq
      rcases List.mem_append.mp hq with h | h
      · exact hr.tn q h
      · rw [List.mem_singleton.mp h]; exact ht
  rintro ds ρ' ⟨c2, x, rows, hc2, hr, rfl, hl2, rfl⟩
  have hl5 : rows.length ≤ 13 := by rw [List.length_nil] at hl2; omega
  clear hc hc' h0 h4 hl2
  have ee := enum_pk pk
  have hl3 := rD_len rows
  simp (disch := first | omega | (simp <;> omega) | fail) [ee]
  refine wk_forN pk.length _ (fun k ρ => ∃ x4 x5 x6 x7 x8 x9 x10, ρ = [some c2, some (.tup (pD pk)), some (.tup (rD rows)), some (.lst ((List.range k).map (colD pk rows))), x4, x5, x6, x7, x8, x9, x10, none, none, none, none, none, none, none, none, none, none]) rfl ⟨_, _, _, _, _, _, _, rfl⟩ ?_ ?_
  · rintro k ρ hk ⟨x4, x5, x6, x7, x8, x9, x10, rfl⟩
    have tp := hp.tabs _ (pkAt_mem hk)
    have ht := colT_tn hr hk
    have hT : (colT rows k).length = rows.length := by unfold colT; rw [List.length_map]
    simp (disch := first | omega | (simp <;> omega) | fail) []
    refine wk_map1 rows (fun r => .tup (dints r)) (fun r => .int (r.getD k 0)) rfl (fun r hrm => ?_) ?_
    · have := atI_ints r k (by rw [hr.len r hrm]; exact hk)
      generalize dints r = ds at *
      simp (disch := first | omega | (simp <;> omega) | fail) [this]
    rw [col_rw]
    generalize eT : colT rows k = T at *
    have v1 := (lholes_ok ht (by omega)).v
    have v2 := (col_ok tp ht (by omega)).v
    have v3 := (top_ok ht (by omega)).v
    have v4 := (twist_ok ht (by omega)).v
    have v5 := (chg_ok ht (by omega)).v
    have v6 := (float_ok ht (by omega)).v
    have v7 := (lfloat_ok (hs := hol 0 T) (by rw [hol_len]; omega)).v
    have s1 := sum_tup T
    have z := zip2_tail T
    have zl := zip_le T
    have hh := hol_len T 0
    have hb := hol_bound T 0 (by decide) (by decide)
    have dl : (dints (hol 0 T)).length = T.length := by rw [List.length_map, hh]
    have cl := chg_law ht
    generalize dints T = dT at *
    generalize eH : hol 0 T = H at *
    generalize eh : dints H = dH at *
    simp (disch := first | omega | (simp <;> omega) | fail) [v1]
    refine wk_map1 H D.int (fun h => .str (nmAt (pkAt pk k).2 h)) eh.symm (fun h hm => ?_) ?_
    · have := at_nm (l := (pkAt pk k).2) (hb h hm).1 (by rw [tp.len]; exact (hb h hm).2)
      simp (disch := first | omega | (simp <;> omega) | fail) [tab, at1, this]
    have eY : (H.map fun h => D.str (nmAt (pkAt pk k).2 h)) = (col (pkAt pk k).2 T).map D.str := by
      unfold col
      rw [List.map_map, eH]
      rfl
    have eC : colD pk rows k = .lst ((col (pkAt pk k).2 T).map D.str) := by
      unfold colD colAt
      rw [eT]
    have lY : ((col (pkAt pk k).2 T).map D.str).length = T.length := by rw [← eY, List.length_map, hh]
    have sY : smL ((col (pkAt pk k).2 T).map D.str) = true := by
      rw [← eY]
      refine smL_of fun d hd => ?_
      obtain ⟨h, hm, rfl⟩ := List.mem_map.mp hd
      have := tp.nms (nmAt (pkAt pk k).2 h) (by
        unfold nmAt
        have hq : h.toNat < (pkAt pk k).2.length := by rw [tp.len]; have := hb h hm; omega
        rw [List.getD_eq_getElem?_getD, List.getElem?_eq_getElem hq]
        exact List.getElem_mem _)
      unfold nameB at this
      rw [Bool.and_eq_true, Bool.and_eq_true, Bool.and_eq_true, decide_eq_true_eq, decide_eq_true_eq] at this
      exact decide_eq_true (by omega)
    have dY : depL ((col (pkAt pk k).2 T).map D.str) = 0 := dep_strs _
    rw [eY]
    rw [List.drop_one] at cl
    have zl' : (T.zip T.tail).length ≤ T.length := by rw [← List.drop_one]; exact zl
    generalize (col (pkAt pk k).2 T).map D.str = Y at *
    simp (disch := first | omega | (simp <;> omega) | fail) [r_addTo, z]
    refine wk_flt2 (T.zip T.tail) (fun p => .int p.1) (fun p => .int p.2) (fun p => p.1 + p.2 == 0) (fun _ => .int 1) rfl (fun p _ => ?_) ?_
    · simp (disch := first | omega | (simp <;> omega) | fail) [eqI]
    rw [← eC]
    have lk : m__law_like.v [.lst [.tup Y, .int (htop 0 T), .int T.sum, .int (chg T), .int (lf H)], .lst [.tup Y, .int (htop 0 T), .int T.sum, .int (chg T), .int (lf H)]] = .ok (.bl true) := like_v (by simp [D.sm, smL, sY]; omega) (by simp [D.dep, depL, dY])
    simp (disch := first | omega | (simp <;> omega) | fail) [v2, v3, v4, v5, v6, v7, cl, atl, s1, eC, lk]
    exact .mk ⟨_, _, _, _, _, _, _, by rw [List.range_succ, List.map_append]; rfl⟩
  rintro ρ ⟨x4, x5, x6, x7, x8, x9, x10, rfl⟩
  simp (disch := first | omega | (simp <;> omega) | fail) []
  have r1 := r_rng1 (j := (rows.length : Int)) (by omega) (by omega)
  have r2 := r_rng1 (j := (pk.length : Int)) (by omega) (by omega)
  rw [Int.toNat_natCast] at r1 r2
  simp (disch := first | omega | (simp <;> omega) | fail) [hl3, r1]
  refine wk_map1 (List.range rows.length) (fun (r : Nat) => .int r) (fun r => .tup ((List.range pk.length).map fun k => .str ((colAt pk rows k).getD r []))) rfl (fun r hrm => ?_) ?_
  · rw [List.mem_range] at hrm
    simp (disch := first | omega | (simp <;> omega) | fail) []
    refine wk_map1 (List.range pk.length) (colD pk rows) (fun k => .str ((colAt pk rows k).getD r [])) rfl (fun k _ => ?_) ?_
    · have := atI_strs (colAt pk rows k) r (by rw [colAt_len]; exact hrm)
      have e : colD pk rows k = .lst ((colAt pk rows k).map D.str) := rfl
      rw [e]
      generalize (colAt pk rows k).map D.str = cs at *
      generalize (colAt pk rows k).getD r [] = y at *
      simp (disch := first | omega | (simp <;> omega) | fail) [this]
    simp (disch := first | omega | (simp <;> omega) | fail) []
  have eP : D.tup ((List.range rows.length).map fun r => .tup ((List.range pk.length).map fun k => .str ((colAt pk rows k).getD r []))) = picD pk rows := rfl
  obtain ⟨P, hP⟩ : ∃ P, P = (List.range rows.length).map fun r => D.tup ((List.range pk.length).map fun k => .str ((colAt pk rows k).getD r [])) := ⟨_, rfl⟩
  rw [← hP] at eP ⊢
  simp (disch := first | omega | (simp <;> omega) | fail) []
  refine wk_map1 rows (fun r => .tup (dints r)) (fun r => .str (lnOf pk r)) rfl (fun r hrm => ?_) ?_
  · have z := zip_pr pk r
    have zl : (pk.zip r).length ≤ 8 := by rw [List.length_zip]; omega
    have j := join_ones (fun p : (List Nat × List (List Nat)) × Int => lnC p.1.1 p.2) (pk.zip r) (by omega)
    generalize dints r = ds at *
    simp (disch := first | omega | (simp <;> omega) | fail) [z]
    refine wk_map2 (pk.zip r) (fun p => tab p.1.1 p.1.2) (fun p => .int p.2) (fun p => .str [lnC p.1.1 p.2]) rfl (fun p hpm => ?_) ?_
    · have hs := (hp.tabs p.1 (List.of_mem_zip hpm).1).side
      have ht := hr.tn r hrm p.2 (List.of_mem_zip hpm).2
      have hll := lean_law hs ht
      obtain ⟨⟨s, l⟩, t⟩ := p
      have eT : tab s l = .tup [.str s, .tup (l.map D.str)] := rfl
      dsimp only at hs ht hll ⊢
      simp (disch := first | omega | (simp <;> omega) | fail) [eT, at0, eqI]
      unfold lnC
      rcases ht with rfl | rfl
      · simp (disch := first | omega | (simp <;> omega) | fail) [eqSS]
        rcases hs with rfl | rfl <;> simp (disch := first | omega | (simp <;> omega) | fail) []
      · simp (disch := first | omega | (simp <;> omega) | fail) [eqSS]
        rcases hs with rfl | rfl <;> simp (disch := first | omega | (simp <;> omega) | fail) []
    simp (disch := first | omega | (simp <;> omega) | fail) [j]
    rfl
  obtain ⟨L, hL⟩ : ∃ L, L = rows.map fun r => D.str (lnOf pk r) := ⟨_, rfl⟩
  have eL : D.tup L = lnD pk rows := by rw [hL]; rfl
  rw [← hL]
  simp (disch := first | omega | (simp <;> omega) | fail) [hl, r2]
  refine wk_map1 (List.range pk.length) (fun (k : Nat) => .int k) (fun k => .int (colT rows k).sum) rfl (fun k hk => ?_) ?_
  · rw [List.mem_range] at hk
    simp (disch := first | omega | (simp <;> omega) | fail) []
    refine wk_map1 rows (fun r => .tup (dints r)) (fun r => .int (r.getD k 0)) rfl (fun r hrm => ?_) ?_
    · have := atI_ints r k (by rw [hr.len r hrm]; exact hk)
      generalize dints r = ds at *
      simp (disch := first | omega | (simp <;> omega) | fail) [this]
    rw [col_rw]
    have := sum_lst (colT rows k)
    generalize dints (colT rows k) = ds at *
    simp (disch := first | omega | (simp <;> omega) | fail) [this]
  obtain ⟨T, hT⟩ : ∃ T, T = (List.range pk.length).map fun k => D.int (colT rows k).sum := ⟨_, rfl⟩
  have eT : D.tup T = twD pk rows := by rw [hT]; rfl
  rw [← hT]
  have v1 := (pic_ok hp hr).v
  have v2 := (leans_ok hp hr).v
  have v3 := (twists_ok hp hr).v
  have m1 := pic_sm hp hr
  have m2 := ln_sm hp hr
  have m3 := tw_sm hp hr
  rw [← eP] at v1 m1
  rw [← eL] at v2 m2
  rw [← eT] at v3 m3
  have lk : m__law_like.v [.lst [.tup P, .tup L, .tup T], .lst [.tup P, .tup L, .tup T]] = .ok (.bl true) := like_v (lst_sm (by simp) (by simp [smL, m1, m2, m3])) (by simp [D.dep, depL] at m1 m2 m3 ⊢; omega)
  clear hP eP hL eL hT eT
  simp (disch := first | omega | (simp <;> omega) | fail) [v1, v2, v3, lk, r_rng1]
  generalize (List.range pk.length).map (colD pk rows) = cols at *
  clear r1 r2 ee lk v1 v2 v3 m1 m2 m3
  have sP := hp.sm
  have sR := hr.sm (show pk.length ≤ 1000 by omega)
  have okP := hp.ok
  have lb : ∀ b : Bool, m__law_like.v [.bl b, .bl b] = .ok (.bl true) := fun b => like_v rfl (by show 0 < 8; decide)
  refine wk_lcN 8 (fun k => .int k) (fun k acc ρ => ∃ c' y, CupI c' ∧ acc.length = k ∧ smL acc = true ∧ ρ = [some c', some (.tup (pD pk)), some (.tup (rD rows)), some (.lst cols), x4, x5, x6, x7, x8, x9, x10, some (.tup P), some (.tup L), some (.tup T), none, none, none, y, none, none, none]) rfl ⟨c2, none, hc2, rfl, rfl, rfl⟩ ?_ ?_
  · rintro k acc ρ hk ⟨c3, y, hc3, ha, hs, rfl⟩
    simp (disch := first | omega | (simp <;> omega) | fail) []
    refine (near_ok hc3 hp).mono ?_
    rintro _ ⟨xs, c4, rfl, hc4, hx0, hx1, hxs⟩
    simp (disch := first | omega | (simp <;> omega) | fail) [hc4.flatC]
    refine (someW hc4 hx0 (by omega)).mono ?_
    rintro _ ⟨d, c5, rfl, hd, hc5⟩
    simp (disch := first | omega | (simp <;> omega) | fail) [hc5.flatC]
    exact .mk ⟨c5, _, hc5, by simp [ha], by rw [smL_app, hs]; simp [smL, smL_mem hxs d hd], rfl⟩
  rintro ds ρ' ⟨c3, y, hc3, ha, hs, rfl⟩
  have hds : ∀ d, d ∈ D.tup (pD pk) :: ds → d.sm = true := fun d hd => (List.mem_cons.mp hd).elim (fun e => e ▸ sP) (smL_mem hs d)
  simp (disch := first | omega | (simp <;> omega) | fail) [r_addL]
  refine wk_for (D.tup (pD pk) :: ds) id (fun rest ρ => (∀ d, d ∈ rest → d.sm = true) ∧ ∃ y14 y15, ρ = [some c3, some (.tup (pD pk)), some (.tup (rD rows)), some (.lst cols), x4, x5, x6, x7, x8, x9, x10, some (.tup P), some (.tup L), some (.tup T), y14, y15, none, none, none, none, none]) (List.map_id _).symm ⟨hds, _, _, rfl⟩ ?_ ?_
  · rintro d rest ρ ⟨hm, y14, y15, rfl⟩
    have hd := hm d List.mem_cons_self
    have hm' : ∀ d, d ∈ rest → d.sm = true := fun x hx => hm x (List.mem_cons_of_mem _ hx)
    have v1 := (is_pack_ok hd).v
    have v2 := (pack_ok2 hd).v
    by_cases ht : ∃ xs, d = .tup xs
    · obtain ⟨xs, rfl⟩ := ht
      have e3 := is3t xs
      cases xs with
      | nil =>
        have v3 := (is_tablet_ok hd).v
        have v4 := (tab_ok2 hd).v
        have e4 : dNe (.tup []) (.tup []) = some (.bl false) := rfl
        simp (disch := first | omega | (simp <;> omega) | fail) [v1, v2, lb, e3, v3, v4, e4]
        exact .mk ⟨hm', _, _, rfl⟩
      | cons z zs =>
        have hz := (sm_tup hd).2 z List.mem_cons_self
        have v3 := (is_tablet_ok hz).v
        have v4 := (tab_ok2 hz).v
        have e4 : dNe (.tup (z :: zs)) (.tup []) = some (.bl true) := by
          have := ne_nilL (z :: zs) (smL_lay _ (smL_of (sm_tup hd).2))
          exact this
        simp (disch := first | omega | (simp <;> omega) | fail) [v1, v2, lb, e3, v3, v4, e4, at0]
        exact .mk ⟨hm', _, _, rfl⟩
    · have e3 := notup hd ht
      have v3 := (is_tablet_ok hd).v
      have v4 := (tab_ok2 hd).v
      simp (disch := first | omega | (simp <;> omega) | fail) [v1, v2, lb, e3, v3, v4]
      exact .mk ⟨hm', _, _, rfl⟩
  rintro ρ ⟨_, y14, y15, rfl⟩
  simp (disch := first | omega | (simp <;> omega) | fail) [r_rng1]
  refine wk_lcN 6 (fun k => .int k) (fun k acc ρ => ∃ c' y, CupI c' ∧ acc.length = k ∧ smL acc = true ∧ ρ = [some c', some (.tup (pD pk)), some (.tup (rD rows)), some (.lst cols), x4, x5, x6, x7, x8, x9, x10, some (.tup P), some (.tup L), some (.tup T), y14, y15, none, y, none, none, none]) rfl ⟨c3, none, hc3, rfl, rfl, rfl⟩ ?_ ?_
  · rintro k acc ρ hk ⟨c3, y, hc3, ha, hs, rfl⟩
    simp (disch := first | omega | (simp <;> omega) | fail) []
    refine (near_rows_ok hc3 hp hr).mono ?_
    rintro _ ⟨xs, c4, rfl, hc4, hx0, hx1, hxs⟩
    simp (disch := first | omega | (simp <;> omega) | fail) [hc4.flatC]
    refine (someW hc4 hx0 (by omega)).mono ?_
    rintro _ ⟨d, c5, rfl, hd, hc5⟩
    simp (disch := first | omega | (simp <;> omega) | fail) [hc5.flatC]
    exact .mk ⟨c5, _, hc5, by simp [ha], by rw [smL_app, hs]; simp [smL, smL_mem hxs d hd], rfl⟩
  rintro es ρ' ⟨c4, y, hc4, ha2, hs2, rfl⟩
  have hes : ∀ d, d ∈ D.tup (rD rows) :: es → d.sm = true := fun d hd => (List.mem_cons.mp hd).elim (fun e => e ▸ sR) (smL_mem hs2 d)
  simp (disch := first | omega | (simp <;> omega) | fail) [r_addL]
  refine wk_for (D.tup (rD rows) :: es) id (fun rest ρ => (∀ d, d ∈ rest → d.sm = true) ∧ ∃ y14, ρ = [some c4, some (.tup (pD pk)), some (.tup (rD rows)), some (.lst cols), x4, x5, x6, x7, x8, x9, x10, some (.tup P), some (.tup L), some (.tup T), y14, y15, none, none, none, none, none]) (List.map_id _).symm ⟨hes, _, rfl⟩ ?_ ?_
  · rintro d rest ρ ⟨hm, z14, rfl⟩
    have hd := hm d List.mem_cons_self
    have hm' : ∀ d, d ∈ rest → d.sm = true := fun x hx => hm x (List.mem_cons_of_mem _ hx)
    have v1 := (are_rows_ok sP okP hd).v
    have v2 := (lare_rows_ok (ps := pD pk) hd).v
    simp (disch := first | omega | (simp <;> omega) | fail) [v1, v2, lb]
    exact .mk ⟨hm', _, rfl⟩
  rintro ρ ⟨_, z14, rfl⟩
  simp (disch := first | omega | (simp <;> omega) | fail) []
  exact hc4
end LK80

namespace LK80
open PySem PySem.Spec L2 SX EV
theorem wr_ok : m__law_written_right.m [] = .ok (.bl true, []) := by
  kernel_rfl
end LK80

namespace LK80
open PySem PySem.Spec L2 SX EV
def one4 : D := .tup [.str [115], .tup [.str [97], .str [98], .str [99], .str [100]]]
def two4 : D := .tup [.str [122], .tup [.str [97], .str [97], .str [98], .str [98]]]
def rows4 : D := .tup [.tup [.int 1, .int 1], .tup [.int 1, .int (-1)]]
def told4 : D := .lst [.tup [.tup [.str [97], .str [97]], .tup [.str [98], .str [97]]], .tup [.str [47, 45], .str [47, 47]], .tup [.int 2, .int 0]]
theorem wr_head (T : SS) (c : D) : H__law_written_7 T (start0 10 [c]) = T [some c, some one4, some two4, some told4, some rows4, none, none, none, none, none] := by
  kernel_rfl
def wst (r : Res (Fl × EV.Env)) : Option D := match r with
  | .ok (.ret (.bl true), x :: _) => x
  | _ => none
theorem wst_ok {r : Res (Fl × EV.Env)} {c : D} (h : wst r = some c) : ∃ ρ, r = .ok (.ret (.bl true), some c :: ρ) := by
  unfold wst at h
  split at h
  · exact ⟨_, by rw [h]⟩
  · cases h
theorem wr_tail (c : D) : ∀ i : Int, 0 ≤ i → i < 21 → wst (T__law_written_8 [some c, some one4, some two4, some told4, some rows4, some (.int i), none, none, none, none]) = some c := by
  intro i h0 h1
  have : i = 0 ∨ i = 1 ∨ i = 2 ∨ i = 3 ∨ i = 4 ∨ i = 5 ∨ i = 6 ∨ i = 7 ∨ i = 8 ∨ i = 9 ∨ i = 10 ∨ i = 11 ∨ i = 12 ∨ i = 13 ∨ i = 14 ∨ i = 15 ∨ i = 16 ∨ i = 17 ∨ i = 18 ∨ i = 19 ∨ i = 20 := by omega
  rcases this with rfl | rfl | rfl | rfl | rfl | rfl | rfl | rfl | rfl | rfl | rfl | rfl | rfl | rfl | rfl | rfl | rfl | rfl | rfl | rfl | rfl <;> kernel_rfl
theorem written_ok {c : D} (hc : CupI c) : Wk (m__law_written.m [c]) fun r => ∃ c', r = (.bl true, [c']) ∧ CupI c' := by
  have eB : B__law_written = H__law_written_7 T__law_written_7 := rfl
  have eT : T__law_written_7 = H__law_written_8 T__law_written_8 := rfl
  rw [me__law_written, eB]
  rw [wk_runB, wr_head, eT]
  simp (disch := first | omega | (simp <;> omega) | fail) [H__law_written_8]
  refine (rollW hc (by omega) (by omega)).mono ?_
  rintro _ ⟨r, c', rfl, h0, h4, hc'⟩
  simp (disch := first | omega | (simp <;> omega) | fail) [hc'.flatC]
  obtain ⟨ρ, e⟩ := wst_ok (wr_tail c' r h0 h4)
  refine .eq e ?_
  simp (disch := first | omega | (simp <;> omega) | fail) []
  exact hc'
end LK80

namespace LK80
open PySem PySem.Spec L2 SX EV
theorem namesW {c : D} {n : Int} (hc : CupI c) (h0 : 0 ≤ n) (hn : n ≤ 50) : Wk (m__law_names.m [c, .int n]) fun r => ∃ l c', r = (.lst (l.map D.str), [c', .int n]) ∧ (l.length : Int) = n ∧ NmsI l ∧ CupI c' := by
  obtain ⟨k, rfl⟩ : ∃ k : Nat, n = k := ⟨n.toNat, by omega⟩
  obtain ⟨l, c', h1, h2, h3, e⟩ := names_ok hc (n := k) (by omega)
  exact .eq e ⟨l, c', rfl, by omega, h2, h3⟩
theorem tabletW {c : D} {l : List (List Nat)} (hc : CupI c) (hl : NmsI l) (h0 : 0 < l.length) (h1 : l.length ≤ 50) : Wk (m__law_tablet.m [c, .lst (l.map D.str)]) fun r => ∃ (t : List Nat × List (List Nat)) (c' : D), r = (tab t.1 t.2, [c', .lst (l.map D.str)]) ∧ TabP t.1 t.2 ∧ CupI c' := by
  obtain ⟨d, c', ⟨s, m, rfl, h2, h3, h4⟩, hc', e⟩ := tablet_ok hc hl h0 h1
  exact .eq e ⟨(s, m), c', rfl, ⟨h2, h3, h4⟩, hc'⟩
theorem law_true (ns : List Int) (hl : ns.length ≤ 63) : ∃ o, m_law.m [.scr ns] = .ok (.bl true, o) := by
  suffices h : Wk (m_law.m [.scr ns]) fun r => ∃ o : List D, r = (.bl true, o) by
    obtain ⟨r, e, o, rfl⟩ := h
    exact ⟨o, e⟩
  have w : m__law_written_right.v [] = .ok (.bl true) := Val.v ⟨_, wr_ok⟩
  obtain ⟨c, hc, ec⟩ := cup_ok hl
  rw [me_law]
  simp (disch := first | omega | (simp <;> omega) | fail) [B_law, w, ec, r_rng1]
  refine wk_forN 3 (fun k => .int k) (fun k ρ => ∃ c x2 x3, CupI c ∧ ρ = [some (.scr ns), some c, x2, x3, none]) rfl ⟨c, _, _, hc, rfl⟩ ?_ ?_
  · rintro k ρ hk ⟨c, x2, x3, hc, rfl⟩
    simp (disch := first | omega | (simp <;> omega) | fail) []
    refine (rollW hc (by omega) (by omega)).mono ?_
    rintro _ ⟨r, c1, rfl, h0, h4, hc1⟩
    simp (disch := first | omega | (simp <;> omega) | fail) [hc1.flatC]
    refine (namesW hc1 (by omega) (by omega)).mono ?_
    rintro _ ⟨l, c2, rfl, hl2, hm, hc2⟩
    simp (disch := first | omega | (simp <;> omega) | fail) [hc2.flatC]
    refine (rollW hc2 (by omega) (by omega)).mono ?_
    rintro _ ⟨m, c3, rfl, m0, m4, hc3⟩
    simp (disch := first | omega | (simp <;> omega) | fail) [hc3.flatC, r_rng1]
    refine wk_lcN (1 + m).toNat (fun k => .int k) (fun j acc ρ => ∃ c y pk, CupI c ∧ acc = pD pk ∧ pk.length = j ∧ (∀ t, t ∈ pk → TabP t.1 t.2) ∧ ρ = [some (.scr ns), some c, some (.int k), some (.lst (l.map D.str)), y]) rfl ⟨c3, none, [], hc3, rfl, rfl, (fun _ h => nomatch h), rfl⟩ ?_ ?_
    · rintro j acc ρ hj ⟨c4, y, pk, hc4, rfl, hpk, ht, rfl⟩
      simp (disch := first | omega | (simp <;> omega) | fail) []
      refine (tabletW hc4 hm (by omega) (by omega)).mono ?_
      rintro _ ⟨t, c5, rfl, htp, hc5⟩
      simp (disch := first | omega | (simp <;> omega) | fail) [hc5.flatC]
      refine .mk ⟨c5, _, pk ++ [t], hc5, by simp [pD], by simp [hpk], fun u hu => ?_, rfl⟩
      rcases List.mem_append.mp hu with h | h
      · exact ht u h
      · rw [List.mem_singleton.mp h]; exact htp
    rintro ds ρ' ⟨c4, y, pk, hc4, rfl, hpk, ht, rfl⟩
    simp (disch := first | omega | (simp <;> omega) | fail) []
    refine (right_ok hc4 ⟨by omega, by omega, ht⟩).mono ?_
    rintro _ ⟨c5, rfl, hc5⟩
    simp (disch := first | omega | (simp <;> omega) | fail) [hc5.flatC]
    exact .mk ⟨c5, _, _, hc5, rfl⟩
  rintro ρ ⟨c, x2, x3, hc, rfl⟩
  simp (disch := first | omega | (simp <;> omega) | fail) []
  refine (written_ok hc).mono ?_
  rintro _ ⟨c5, rfl, hc5⟩
  simp (disch := first | omega | (simp <;> omega) | fail) [hc5.flatC]
end LK80

namespace LK80
open PySem PySem.Spec L2 SX EV
open PyProof.Rows hiding St
/-! the head -/
def d__law_cup : He.DefD := ⟨("_law_cup", none), "_law_cup", "_law_cup", defArgs (top 36), defBody (top 36), defScope (top 36), [], []⟩
def d__law_roll : He.DefD := ⟨("_law_roll", none), "_law_roll", "_law_roll", defArgs (top 37), defBody (top 37), defScope (top 37), [], []⟩
def d_need : He.DefD := ⟨("need", none), "need", "need", defArgs (top 19), defBody (top 19), defScope (top 19), [], []⟩
def d_is_tuple_of : He.DefD := ⟨("is_tuple_of", none), "is_tuple_of", "is_tuple_of", defArgs (top 7), defBody (top 7), defScope (top 7), [], []⟩
def d_is_word : He.DefD := ⟨("is_word", none), "is_word", "is_word", defArgs (top 8), defBody (top 8), defScope (top 8), [], []⟩
def d_is_name : He.DefD := ⟨("is_name", none), "is_name", "is_name", defArgs (top 9), defBody (top 9), defScope (top 9), [], []⟩
def d_fits_tablet : He.DefD := ⟨("fits_tablet", none), "fits_tablet", "fits_tablet", defArgs (top 14), defBody (top 14), defScope (top 14), [], []⟩
def d_is_whole : He.DefD := ⟨("is_whole", none), "is_whole", "is_whole", defArgs (top 6), defBody (top 6), defScope (top 6), [], []⟩
def d_is_turn : He.DefD := ⟨("is_turn", none), "is_turn", "is_turn", defArgs (top 16), defBody (top 16), defScope (top 16), [], []⟩
def d_fits_turns : He.DefD := ⟨("fits_turns", none), "fits_turns", "fits_turns", defArgs (top 17), defBody (top 17), defScope (top 17), [], []⟩
def d_shows : He.DefD := ⟨("shows", none), "shows", "shows", defArgs (top 20), defBody (top 20), defScope (top 20), [], []⟩
def d_holes_of : He.DefD := ⟨("holes_of", none), "holes_of", "holes_of", defArgs (top 21), defBody (top 21), defScope (top 21), [], []⟩
def d_column_of : He.DefD := ⟨("column_of", none), "column_of", "column_of", defArgs (top 26), defBody (top 26), defScope (top 26), [], []⟩
def d_is_tablet : He.DefD := ⟨("is_tablet", none), "is_tablet", "is_tablet", defArgs (top 23), defBody (top 23), defScope (top 23), [], []⟩
def d_top_of : He.DefD := ⟨("top_of", none), "top_of", "top_of", defArgs (top 27), defBody (top 27), defScope (top 27), [], []⟩
def d_twist_of : He.DefD := ⟨("twist_of", none), "twist_of", "twist_of", defArgs (top 28), defBody (top 28), defScope (top 28), [], []⟩
def d__law_sort : He.DefD := ⟨("_law_sort", none), "_law_sort", "_law_sort", defArgs (top 39), defBody (top 39), defScope (top 39), [], []⟩
def d__law_like : He.DefD := ⟨("_law_like", none), "_law_like", "_law_like", defArgs (top 40), defBody (top 40), defScope (top 40), [], []⟩
def d_fits_pack : He.DefD := ⟨("fits_pack", none), "fits_pack", "fits_pack", defArgs (top 15), defBody (top 15), defScope (top 15), [], []⟩
def d_fits_rows : He.DefD := ⟨("fits_rows", none), "fits_rows", "fits_rows", defArgs (top 18), defBody (top 18), defScope (top 18), [], []⟩
def d_turns_in : He.DefD := ⟨("turns_in", none), "turns_in", "turns_in", defArgs (top 22), defBody (top 22), defScope (top 22), [], []⟩
def d_shown_picture : He.DefD := ⟨("shown_picture", none), "shown_picture", "shown_picture", defArgs (top 32), defBody (top 32), defScope (top 32), [], []⟩
def d_leans_of : He.DefD := ⟨("leans_of", none), "leans_of", "leans_of", defArgs (top 33), defBody (top 33), defScope (top 33), [], []⟩
def d_twists_of : He.DefD := ⟨("twists_of", none), "twists_of", "twists_of", defArgs (top 34), defBody (top 34), defScope (top 34), [], []⟩
def d_changes_in : He.DefD := ⟨("changes_in", none), "changes_in", "changes_in", defArgs (top 29), defBody (top 29), defScope (top 29), [], []⟩
def d_changes_of : He.DefD := ⟨("changes_of", none), "changes_of", "changes_of", defArgs (top 30), defBody (top 30), defScope (top 30), [], []⟩
def d_float_of : He.DefD := ⟨("float_of", none), "float_of", "float_of", defArgs (top 31), defBody (top 31), defScope (top 31), [], []⟩
def d__law_written : He.DefD := ⟨("_law_written", none), "_law_written", "_law_written", defArgs (top 53), defBody (top 53), defScope (top 53), [], []⟩
def d_are_rows : He.DefD := ⟨("are_rows", none), "are_rows", "are_rows", defArgs (top 25), defBody (top 25), defScope (top 25), [], []⟩
def d__law_written_right : He.DefD := ⟨("_law_written_right", none), "_law_written_right", "_law_written_right", defArgs (top 54), defBody (top 54), defScope (top 54), [], []⟩
def d__law_some : He.DefD := ⟨("_law_some", none), "_law_some", "_law_some", defArgs (top 38), defBody (top 38), defScope (top 38), [], []⟩
def d__law_name : He.DefD := ⟨("_law_name", none), "_law_name", "_law_name", defArgs (top 41), defBody (top 41), defScope (top 41), [], []⟩
def d__law_names : He.DefD := ⟨("_law_names", none), "_law_names", "_law_names", defArgs (top 42), defBody (top 42), defScope (top 42), [], []⟩
def d__law_holes : He.DefD := ⟨("_law_holes", none), "_law_holes", "_law_holes", defArgs (top 44), defBody (top 44), defScope (top 44), [], []⟩
def d__law_near : He.DefD := ⟨("_law_near", none), "_law_near", "_law_near", defArgs (top 49), defBody (top 49), defScope (top 49), [], []⟩
def d_is_pack : He.DefD := ⟨("is_pack", none), "is_pack", "is_pack", defArgs (top 24), defBody (top 24), defScope (top 24), [], []⟩
def d__law_is_name : He.DefD := ⟨("_law_is_name", none), "_law_is_name", "_law_is_name", defArgs (top 45), defBody (top 45), defScope (top 45), [], []⟩
def d__law_is_tablet : He.DefD := ⟨("_law_is_tablet", none), "_law_is_tablet", "_law_is_tablet", defArgs (top 46), defBody (top 46), defScope (top 46), [], []⟩
def d__law_is_pack : He.DefD := ⟨("_law_is_pack", none), "_law_is_pack", "_law_is_pack", defArgs (top 47), defBody (top 47), defScope (top 47), [], []⟩
def d__law_near_rows : He.DefD := ⟨("_law_near_rows", none), "_law_near_rows", "_law_near_rows", defArgs (top 50), defBody (top 50), defScope (top 50), [], []⟩
def d__law_are_rows : He.DefD := ⟨("_law_are_rows", none), "_law_are_rows", "_law_are_rows", defArgs (top 48), defBody (top 48), defScope (top 48), [], []⟩
def d__law_float : He.DefD := ⟨("_law_float", none), "_law_float", "_law_float", defArgs (top 51), defBody (top 51), defScope (top 51), [], []⟩
def d__law_right : He.DefD := ⟨("_law_right", none), "_law_right", "_law_right", defArgs (top 52), defBody (top 52), defScope (top 52), [], []⟩
def d__law_tablet : He.DefD := ⟨("_law_tablet", none), "_law_tablet", "_law_tablet", defArgs (top 43), defBody (top 43), defScope (top 43), [], []⟩
def d_law : He.DefD := ⟨("law", none), "law", "law", defArgs (top 55), defBody (top 55), defScope (top 55), [], []⟩
def hfn : List He.DefD := [d__law_cup, d__law_roll, d_need, d_is_tuple_of, d_is_word, d_is_name, d_fits_tablet, d_is_whole, d_is_turn, d_fits_turns, d_shows, d_holes_of, d_column_of, d_is_tablet, d_top_of, d_twist_of, d__law_sort, d__law_like, d_fits_pack, d_fits_rows, d_turns_in, d_shown_picture, d_leans_of, d_twists_of, d_changes_in, d_changes_of, d_float_of, d__law_written, d_are_rows, d__law_written_right, d__law_some, d__law_name, d__law_names, d__law_holes, d__law_near, d_is_pack, d__law_is_name, d__law_is_tablet, d__law_is_pack, d__law_near_rows, d__law_are_rows, d__law_float, d__law_right, d__law_tablet, d_law]
def hfa : List He.Fa := [.glo "_law_cup", .glo "_law_roll", .glo "need", .glo "is_tuple_of", .glo "is_word", .glo "is_name", .glo "fits_tablet", .glo "is_whole", .glo "is_turn", .glo "fits_turns", .glo "shows", .glo "holes_of", .glo "column_of", .glo "is_tablet", .glo "top_of", .glo "twist_of", .glo "_law_sort", .glo "_law_like", .glo "fits_pack", .glo "fits_rows", .glo "turns_in", .glo "shown_picture", .glo "leans_of", .glo "twists_of", .glo "changes_in", .glo "changes_of", .glo "float_of", .glo "_law_written", .glo "are_rows", .glo "_law_written_right", .glo "_law_some", .glo "_law_name", .glo "_law_names", .glo "_law_holes", .glo "_law_near", .glo "is_pack", .glo "_law_is_name", .glo "_law_is_tablet", .glo "_law_is_pack", .glo "_law_near_rows", .glo "_law_are_rows", .glo "_law_float", .glo "_law_right", .glo "_law_tablet", .glo "law", .free "abs", .free "all", .free "bool", .free "enumerate", .free "int", .free "isinstance", .free "len", .free "list", .free "max", .free "min", .free "range", .free "sorted", .free "str", .free "sum", .free "tuple", .free "zip", .int "HOLES" 4, .int "NAME_SIGNS" 12, .int "ROWS" 40, .int "TABLETS" 8, .str "LETTERS" (SX.S [97, 98, 99, 100, 101, 102, 103, 104, 105, 106, 107, 108, 109, 110, 111, 112, 113, 114, 115, 116, 117, 118, 119, 120, 121, 122])]
theorem G_of {K : PySem.W.Frag} {h : Heap} {mg : Str → Option Value} (KX : K.In h) (Gm : h.Ns mainGlobals mg) (c : He.SaysD hfa hfn K) : G K mg where
  f__law_cup := c.def_ 0 (d := d__law_cup) rfl
  g__law_cup := He.glo_ok KX Gm (c.fact 0 (f := .glo "_law_cup") rfl)
  f__law_roll := c.def_ 1 (d := d__law_roll) rfl
  g__law_roll := He.glo_ok KX Gm (c.fact 1 (f := .glo "_law_roll") rfl)
  f_need := c.def_ 2 (d := d_need) rfl
  g_need := He.glo_ok KX Gm (c.fact 2 (f := .glo "need") rfl)
  f_is_tuple_of := c.def_ 3 (d := d_is_tuple_of) rfl
  g_is_tuple_of := He.glo_ok KX Gm (c.fact 3 (f := .glo "is_tuple_of") rfl)
  f_is_word := c.def_ 4 (d := d_is_word) rfl
  g_is_word := He.glo_ok KX Gm (c.fact 4 (f := .glo "is_word") rfl)
  f_is_name := c.def_ 5 (d := d_is_name) rfl
  g_is_name := He.glo_ok KX Gm (c.fact 5 (f := .glo "is_name") rfl)
  f_fits_tablet := c.def_ 6 (d := d_fits_tablet) rfl
  g_fits_tablet := He.glo_ok KX Gm (c.fact 6 (f := .glo "fits_tablet") rfl)
  f_is_whole := c.def_ 7 (d := d_is_whole) rfl
  g_is_whole := He.glo_ok KX Gm (c.fact 7 (f := .glo "is_whole") rfl)
  f_is_turn := c.def_ 8 (d := d_is_turn) rfl
  g_is_turn := He.glo_ok KX Gm (c.fact 8 (f := .glo "is_turn") rfl)
  f_fits_turns := c.def_ 9 (d := d_fits_turns) rfl
  g_fits_turns := He.glo_ok KX Gm (c.fact 9 (f := .glo "fits_turns") rfl)
  f_shows := c.def_ 10 (d := d_shows) rfl
  g_shows := He.glo_ok KX Gm (c.fact 10 (f := .glo "shows") rfl)
  f_holes_of := c.def_ 11 (d := d_holes_of) rfl
  g_holes_of := He.glo_ok KX Gm (c.fact 11 (f := .glo "holes_of") rfl)
  f_column_of := c.def_ 12 (d := d_column_of) rfl
  g_column_of := He.glo_ok KX Gm (c.fact 12 (f := .glo "column_of") rfl)
  f_is_tablet := c.def_ 13 (d := d_is_tablet) rfl
  g_is_tablet := He.glo_ok KX Gm (c.fact 13 (f := .glo "is_tablet") rfl)
  f_top_of := c.def_ 14 (d := d_top_of) rfl
  g_top_of := He.glo_ok KX Gm (c.fact 14 (f := .glo "top_of") rfl)
  f_twist_of := c.def_ 15 (d := d_twist_of) rfl
  g_twist_of := He.glo_ok KX Gm (c.fact 15 (f := .glo "twist_of") rfl)
  f__law_sort := c.def_ 16 (d := d__law_sort) rfl
  g__law_sort := He.glo_ok KX Gm (c.fact 16 (f := .glo "_law_sort") rfl)
  f__law_like := c.def_ 17 (d := d__law_like) rfl
  g__law_like := He.glo_ok KX Gm (c.fact 17 (f := .glo "_law_like") rfl)
  f_fits_pack := c.def_ 18 (d := d_fits_pack) rfl
  g_fits_pack := He.glo_ok KX Gm (c.fact 18 (f := .glo "fits_pack") rfl)
  f_fits_rows := c.def_ 19 (d := d_fits_rows) rfl
  g_fits_rows := He.glo_ok KX Gm (c.fact 19 (f := .glo "fits_rows") rfl)
  f_turns_in := c.def_ 20 (d := d_turns_in) rfl
  g_turns_in := He.glo_ok KX Gm (c.fact 20 (f := .glo "turns_in") rfl)
  f_shown_picture := c.def_ 21 (d := d_shown_picture) rfl
  g_shown_picture := He.glo_ok KX Gm (c.fact 21 (f := .glo "shown_picture") rfl)
  f_leans_of := c.def_ 22 (d := d_leans_of) rfl
  g_leans_of := He.glo_ok KX Gm (c.fact 22 (f := .glo "leans_of") rfl)
  f_twists_of := c.def_ 23 (d := d_twists_of) rfl
  g_twists_of := He.glo_ok KX Gm (c.fact 23 (f := .glo "twists_of") rfl)
  f_changes_in := c.def_ 24 (d := d_changes_in) rfl
  g_changes_in := He.glo_ok KX Gm (c.fact 24 (f := .glo "changes_in") rfl)
  f_changes_of := c.def_ 25 (d := d_changes_of) rfl
  g_changes_of := He.glo_ok KX Gm (c.fact 25 (f := .glo "changes_of") rfl)
  f_float_of := c.def_ 26 (d := d_float_of) rfl
  g_float_of := He.glo_ok KX Gm (c.fact 26 (f := .glo "float_of") rfl)
  f__law_written := c.def_ 27 (d := d__law_written) rfl
  g__law_written := He.glo_ok KX Gm (c.fact 27 (f := .glo "_law_written") rfl)
  f_are_rows := c.def_ 28 (d := d_are_rows) rfl
  g_are_rows := He.glo_ok KX Gm (c.fact 28 (f := .glo "are_rows") rfl)
  f__law_written_right := c.def_ 29 (d := d__law_written_right) rfl
  g__law_written_right := He.glo_ok KX Gm (c.fact 29 (f := .glo "_law_written_right") rfl)
  f__law_some := c.def_ 30 (d := d__law_some) rfl
  g__law_some := He.glo_ok KX Gm (c.fact 30 (f := .glo "_law_some") rfl)
  f__law_name := c.def_ 31 (d := d__law_name) rfl
  g__law_name := He.glo_ok KX Gm (c.fact 31 (f := .glo "_law_name") rfl)
  f__law_names := c.def_ 32 (d := d__law_names) rfl
  g__law_names := He.glo_ok KX Gm (c.fact 32 (f := .glo "_law_names") rfl)
  f__law_holes := c.def_ 33 (d := d__law_holes) rfl
  g__law_holes := He.glo_ok KX Gm (c.fact 33 (f := .glo "_law_holes") rfl)
  f__law_near := c.def_ 34 (d := d__law_near) rfl
  g__law_near := He.glo_ok KX Gm (c.fact 34 (f := .glo "_law_near") rfl)
  f_is_pack := c.def_ 35 (d := d_is_pack) rfl
  g_is_pack := He.glo_ok KX Gm (c.fact 35 (f := .glo "is_pack") rfl)
  f__law_is_name := c.def_ 36 (d := d__law_is_name) rfl
  g__law_is_name := He.glo_ok KX Gm (c.fact 36 (f := .glo "_law_is_name") rfl)
  f__law_is_tablet := c.def_ 37 (d := d__law_is_tablet) rfl
  g__law_is_tablet := He.glo_ok KX Gm (c.fact 37 (f := .glo "_law_is_tablet") rfl)
  f__law_is_pack := c.def_ 38 (d := d__law_is_pack) rfl
  g__law_is_pack := He.glo_ok KX Gm (c.fact 38 (f := .glo "_law_is_pack") rfl)
  f__law_near_rows := c.def_ 39 (d := d__law_near_rows) rfl
  g__law_near_rows := He.glo_ok KX Gm (c.fact 39 (f := .glo "_law_near_rows") rfl)
  f__law_are_rows := c.def_ 40 (d := d__law_are_rows) rfl
  g__law_are_rows := He.glo_ok KX Gm (c.fact 40 (f := .glo "_law_are_rows") rfl)
  f__law_float := c.def_ 41 (d := d__law_float) rfl
  g__law_float := He.glo_ok KX Gm (c.fact 41 (f := .glo "_law_float") rfl)
  f__law_right := c.def_ 42 (d := d__law_right) rfl
  g__law_right := He.glo_ok KX Gm (c.fact 42 (f := .glo "_law_right") rfl)
  f__law_tablet := c.def_ 43 (d := d__law_tablet) rfl
  g__law_tablet := He.glo_ok KX Gm (c.fact 43 (f := .glo "_law_tablet") rfl)
  f_law := c.def_ 44 (d := d_law) rfl
  g_law := He.glo_ok KX Gm (c.fact 44 (f := .glo "law") rfl)
  b_abs := He.free_ok KX Gm (c.fact 45 (f := .free "abs") rfl)
  b_all := He.free_ok KX Gm (c.fact 46 (f := .free "all") rfl)
  b_bool := He.free_ok KX Gm (c.fact 47 (f := .free "bool") rfl)
  b_enumerate := He.free_ok KX Gm (c.fact 48 (f := .free "enumerate") rfl)
  b_int := He.free_ok KX Gm (c.fact 49 (f := .free "int") rfl)
  b_isinstance := He.free_ok KX Gm (c.fact 50 (f := .free "isinstance") rfl)
  b_len := He.free_ok KX Gm (c.fact 51 (f := .free "len") rfl)
  b_list := He.free_ok KX Gm (c.fact 52 (f := .free "list") rfl)
  b_max := He.free_ok KX Gm (c.fact 53 (f := .free "max") rfl)
  b_min := He.free_ok KX Gm (c.fact 54 (f := .free "min") rfl)
  b_range := He.free_ok KX Gm (c.fact 55 (f := .free "range") rfl)
  b_sorted := He.free_ok KX Gm (c.fact 56 (f := .free "sorted") rfl)
  b_str := He.free_ok KX Gm (c.fact 57 (f := .free "str") rfl)
  b_sum := He.free_ok KX Gm (c.fact 58 (f := .free "sum") rfl)
  b_tuple := He.free_ok KX Gm (c.fact 59 (f := .free "tuple") rfl)
  b_zip := He.free_ok KX Gm (c.fact 60 (f := .free "zip") rfl)
  i_HOLES := He.int_ok KX Gm (c.fact 61 (f := .int "HOLES" 4) rfl)
  i_NAME_SIGNS := He.int_ok KX Gm (c.fact 62 (f := .int "NAME_SIGNS" 12) rfl)
  i_ROWS := He.int_ok KX Gm (c.fact 63 (f := .int "ROWS" 40) rfl)
  i_TABLETS := He.int_ok KX Gm (c.fact 64 (f := .int "TABLETS" 8) rfl)
  s_LETTERS := He.str_ok KX Gm (c.fact 65 (f := .str "LETTERS" (SX.S [97, 98, 99, 100, 101, 102, 103, 104, 105, 106, 107, 108, 109, 110, 111, 112, 113, 114, 115, 116, 117, 118, 119, 120, 121, 122])) rfl)
abbrev hR : PySem.W.OpenRow := PySem.W.OpenLaw.row PySem.Challenge.rw_clothholds_k80_whole_tablets_and_what_th
abbrev hK : PySem.W.Hook := He.hookD 4 hfa hfn
def hob (s : PySem.W.SharedT) : He.AlD := He.obsDG 4 hfa hfn (HandSHeadRun.getT s)
theorem hob_eq (s : PySem.W.SharedT) : hob s = hK.obs s.abs := He.obsDG_eq (HandSHeadRun.getT_eq s)
def hloose : List Str := (["ClothError", "InvalidTablets", "LETTERS", "NAME_SIGNS", "is_whole", "is_tuple_of", "is_word", "is_name", "HOLES", "TABLETS", "ROWS", "fits_tablet", "fits_pack", "is_turn", "fits_turns", "fits_rows", "need", "shows", "holes_of", "turns_in", "is_tablet", "is_pack", "are_rows", "column_of", "top_of", "twist_of", "changes_in", "changes_of", "float_of", "shown_picture"] : List Str) ++ (["leans_of", "twists_of", "_law_cup", "_law_roll", "_law_some", "_law_sort", "_law_like", "_law_name", "_law_names", "_law_tablet", "_law_holes", "_law_is_name", "_law_is_tablet", "_law_is_pack", "_law_are_rows", "_law_near", "_law_near_rows", "_law_float", "_law_right", "_law_written", "_law_written_right"] : List Str)
theorem hrun (w : World) : HandSHeadRun.RunEq hR (PySem.W.view hR.prog [55]) hK hob 4000 hloose w := by
  intro os
  kernel_rfl
end LK80
open PySem PySem.W PySem.Calls PyProof.Rows
theorem PySem.Challenge.cw_clothholds_k80_whole_tablets_and_what_th_holds : PySem.Challenge.rw_clothholds_k80_whole_tablets_and_what_th.Holds := by
  w_on; o_law
  refine HandSHeadRun.head_any (r := OpenLaw.row PySem.Challenge.rw_clothholds_k80_whole_tablets_and_what_th) (q := view (OpenLaw.row PySem.Challenge.rw_clothholds_k80_whole_tablets_and_what_th).prog [55]) (H := LK80.hK) (ob := LK80.hob) (M := 4000) (loose := LK80.hloose) (d := HandSHeadRun.topDef (OpenLaw.row PySem.Challenge.rw_clothholds_k80_whole_tablets_and_what_th).prog 55) (kwd := []) LK80.hob_eq
    (by kernel_rfl) (fun s => by kernel_rfl) LK80.hrun (by kernel_rfl) (by kernel_rfl) (by kernel_rfl) (by rfl) (by first | assumption | decide +kernel) (by decide +kernel) ⟨rfl, rfl, rfl, rfl, rfl, by decide +kernel⟩ ?hw ?hc
  case hw => w_witness2
  case hc =>
    refine L2.walk_ofE (l := PySem.Challenge.rw_clothholds_k80_whole_tablets_and_what_th) (n := 63) (k := 11) (x := "script") (CX := L2.CX0) rfl (by decide) (by kernel_rfl) ⟨rfl, by decide, by decide⟩ ?F (fun _ _ _ _ z => z)
    intro w mg fa h Y G hmg0
    obtain ⟨K, KX, c⟩ := Y
    have hmg : mg ("law" : PySem.Str) = some (.ref fa) := by
      have e : (HandSHeadRun.topDef (OpenLaw.row PySem.Challenge.rw_clothholds_k80_whole_tablets_and_what_th).prog 55).name = ("law" : PySem.Str) := by kernel_rfl
      rw [← e]
      exact hmg0
    have g := LK80.G_of KX G c
    have ef := hmg.symm.trans g.g_law
    cases ef
    obtain ⟨fd, F⟩ := g.f_law
    have b := L2.FunD.bindsA (ps := ["script"]) F fun _ _ _ _ _ _ us hl => match us, hl with | [_], _ => rfl
    exact ⟨K, fd, fun vs H Q _ => EV.spF K (LK80.S0 K) LK80.m_law vs H Q fun _ _ _ => False, KX, fun s v => b s [v] rfl, fun H a ns hl _ hS => EV.law_sp rfl rfl hS (LK80.law_true ns hl), fun base _ _ => EV.fn_calm (LK80.f_law_ok g F)⟩
