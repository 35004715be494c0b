import PyProof.Rows.All
import Wide.All
import OpenK.AllK
import Wide.FinOn
import HandS.ForMost
import HandS.TupAny
import HandS.TupMul
import HandS.Style
import HandS.Deep
import HandS.Text
import HandS.SortInts
import HandS.Conv
import HandS.RaiseMore
import KE.KSortedM
import HandS.More
import PySem.Challenge.RW_daysworn_k49_leap_rules_found
set_option Elab.async false
set_option linter.all false
set_option maxRecDepth 100000
set_option autoImplicit false
/-! Cr1: tree values, what stands for them in the abstract heap, and the judgements. -/
namespace Cr
open PySem PySem.Spec PyProof.Rows L2

/-- a value as a tree; `ref n`: the n-th shared object -/
inductive W where
  | non
  | bl (b : Bool)
  | int (i : Int)
  | str (x : Str)
  | tup (xs : List W)
  | lst (xs : List W)
  | dct (kvs : List (Key × W))
  | dtt (kvs : List (List Key × W))
  | ref (n : Nat)
  | scr (xs : List Int)
  deriving Inhabited

/-- what a slot or a field holds: a value that stands for ever, or a list, a dict of its own -/
inductive O where
  | w (v : W)
  | ol (xs : List W)
  | od (kvs : List (Key × W))
  | ot (kvs : List (List Key × W))
  | oll (xs : List (List W))
  deriving Inhabited

abbrev Env := List (Option O)
/-- a shared object: of which class (none: a dict with text keys), its fields -/
structure Ob where
  cls : Option Str
  fs : List (Str × O)
  deriving Inhabited
abbrev Store := List Ob
structure Exc where
  cls : Str
  arg : W
inductive R (α : Type) where
  | ok (a : α) (st : Store)
  | ex (e : Exc) (st : Store)
  | no
@[inline] def R.bind {α β : Type} (r : R α) (k : α → Store → R β) : R β :=
  match r with
  | .ok a st => k a st
  | .ex e st => .ex e st
  | .no => .no
theorem R.bind_ok {α β : Type} {r : R α} {k : α → Store → R β} {b : β} {st : Store} (h : r.bind k = .ok b st) : ∃ a s, r = .ok a s ∧ k a s = .ok b st := by
  cases r with
  | ok a s => exact ⟨a, s, rfl, h⟩
  | ex e s => cases h
  | no => cases h
@[simp] theorem R.ok_bind {α β : Type} (a : α) (st : Store) (k : α → Store → R β) : (R.ok a st).bind k = k a st := rfl
@[simp] theorem R.ex_bind {α β : Type} (e : Exc) (st : Store) (k : α → Store → R β) : (R.ex e st : R α).bind k = .ex e st := rfl
@[simp] theorem R.no_bind {α β : Type} (k : α → Store → R β) : (R.no : R α).bind k = .no := rfl

/-! ### what stands for a value -/
inductive Place where
  | env (i : Nat)
  | obj (n : Nat)
  | fld (n : Nat) (f : Str)
  | out
abbrev Ow := Addr → Option Place
structure Cf where
  ow : Ow
  H : Hp
  ρ : List Addr
/-- the longest list -/
abbrev LIM : Nat := 16777216
theorem lim_eq : sizeLine = LIM := by rw [sizeLine_eq]
/-- what nobody may change -/
def Cf.fz (c : Cf) : Hp := fun a => match c.ow a with
  | none => c.H a
  | some _ => none
theorem Cf.fz_of {c : Cf} {a : Addr} (h : c.ow a = none) : c.fz a = c.H a := by unfold Cf.fz; rw [h]
theorem Cf.of_fz {c : Cf} {a : Addr} {o : HO} (h : c.fz a = some o) : c.ow a = none ∧ c.H a = some o := by
  unfold Cf.fz at h
  cases q : c.ow a with
  | none => rw [q] at h; exact ⟨rfl, h⟩
  | some p => rw [q] at h; cases h

section
variable (K : PySem.W.Frag) (H : Hp) (ρ : List Addr)
mutual
inductive Rep : W → V → Prop
  | non : Rep .non .non
  | bl (b : Bool) : Rep (.bl b) (.bl b)
  | int (i : Int) : Rep (.int i) (.int i)
  | str (x : Str) : PyData.strOk x = true → x.length ≤ LIM → Rep (.str x) (.str x)
  | tup {a : Addr} {ws : List W} {vs : List V} : SqT K H a vs → RepL ws vs → ws.length ≤ LIM → Rep (.tup ws) (.ref a)
  | lst {a : Addr} {ws : List W} {vs : List V} : H a = some (.lst vs) → RepL ws vs → ws.length ≤ LIM → Rep (.lst ws) (.ref a)
  | scr {a : Addr} {ns : List Int} : SqL K H a (ns.map V.int) → ns.length ≤ LIM → Rep (.scr ns) (.ref a)
  | dct {a : Addr} {o : PySem.Obj} {ws : List (Key × W)} {vs : List (Key × V)} : H a = some (.frz o (.dK vs)) → RepD ws vs → ws.length ≤ LIM → Rep (.dct ws) (.ref a)
  | dtt {a : Addr} {o : PySem.Obj} {ws : List (List Key × W)} {vs : List (List Key × V)} : H a = some (.frz o (.dT vs)) → RepT ws vs → ws.length ≤ LIM → Rep (.dtt ws) (.ref a)
  | ref {n : Nat} {a : Addr} : ρ[n]? = some a → Rep (.ref n) (.ref a)
inductive RepL : List W → List V → Prop
  | nil : RepL [] []
  | cons {w : W} {v : V} {ws : List W} {vs : List V} : Rep w v → RepL ws vs → RepL (w :: ws) (v :: vs)
inductive RepD : List (Key × W) → List (Key × V) → Prop
  | nil : RepD [] []
  | cons {k : Key} {w : W} {v : V} {ws : List (Key × W)} {vs : List (Key × V)} : Rep w v → RepD ws vs → RepD ((k, w) :: ws) ((k, v) :: vs)
inductive RepT : List (List Key × W) → List (List Key × V) → Prop
  | nil : RepT [] []
  | cons {k : List Key} {w : W} {v : V} {ws : List (List Key × W)} {vs : List (List Key × V)} : Rep w v → RepT ws vs → RepT ((k, w) :: ws) ((k, v) :: vs)
end
end

section
variable {K : PySem.W.Frag} {H H' : Hp} {ρ ρ' : List Addr}
theorem sqT_mono (h : ∀ a o, H a = some o → H' a = some o) {a : Addr} {vs : List V} (q : SqT K H a vs) : SqT K H' a vs := by
  rcases q with (q | ⟨o, q⟩) | q
  · exact .inl (.inl (h _ _ q))
  · exact .inl (.inr ⟨o, h _ _ q⟩)
  · exact .inr q
theorem sqL_mono (h : ∀ a o, H a = some o → H' a = some o) {a : Addr} {vs : List V} (q : SqL K H a vs) : SqL K H' a vs := by
  rcases q with (q | ⟨o, q⟩) | q
  · exact .inl (.inl (h _ _ q))
  · exact .inl (.inr ⟨o, h _ _ q⟩)
  · exact .inr q
mutual
theorem Rep.mono (h : ∀ a o, H a = some o → H' a = some o) (hr : ∀ (n : Nat) (a : Addr), ρ[n]? = some a → ρ'[n]? = some a) : ∀ {w : W} {v : V}, Rep K H ρ w v → Rep K H' ρ' w v
  | _, _, .non => .non
  | _, _, .bl b => .bl b
  | _, _, .int i => .int i
  | _, _, .str x e z => .str x e z
  | _, _, .tup q r z => .tup (sqT_mono h q) (RepL.mono h hr r) z
  | _, _, .lst q r z => .lst (h _ _ q) (RepL.mono h hr r) z
  | _, _, .scr q z => .scr (sqL_mono h q) z
  | _, _, .dct q r z => .dct (h _ _ q) (RepD.mono h hr r) z
  | _, _, .dtt q r z => .dtt (h _ _ q) (RepT.mono h hr r) z
  | _, _, .ref e => .ref (hr _ _ e)
theorem RepL.mono (h : ∀ a o, H a = some o → H' a = some o) (hr : ∀ (n : Nat) (a : Addr), ρ[n]? = some a → ρ'[n]? = some a) : ∀ {ws : List W} {vs : List V}, RepL K H ρ ws vs → RepL K H' ρ' ws vs
  | _, _, .nil => .nil
  | _, _, .cons q r => .cons (Rep.mono h hr q) (RepL.mono h hr r)
theorem RepD.mono (h : ∀ a o, H a = some o → H' a = some o) (hr : ∀ (n : Nat) (a : Addr), ρ[n]? = some a → ρ'[n]? = some a) : ∀ {ws : List (Key × W)} {vs : List (Key × V)}, RepD K H ρ ws vs → RepD K H' ρ' ws vs
  | _, _, .nil => .nil
  | _, _, .cons q r => .cons (Rep.mono h hr q) (RepD.mono h hr r)
theorem RepT.mono (h : ∀ a o, H a = some o → H' a = some o) (hr : ∀ (n : Nat) (a : Addr), ρ[n]? = some a → ρ'[n]? = some a) : ∀ {ws : List (List Key × W)} {vs : List (List Key × V)}, RepT K H ρ ws vs → RepT K H' ρ' ws vs
  | _, _, .nil => .nil
  | _, _, .cons q r => .cons (Rep.mono h hr q) (RepT.mono h hr r)
end
theorem RepL.length : ∀ {ws : List W} {vs : List V}, RepL K H ρ ws vs → ws.length = vs.length
  | _, _, .nil => rfl
  | _, _, .cons _ r => by simp [RepL.length r]
theorem RepL.get : ∀ {ws : List W} {vs : List V} {i : Nat} {w : W}, RepL K H ρ ws vs → ws[i]? = some w → ∃ v, vs[i]? = some v ∧ Rep K H ρ w v
  | _, _, _, _, .nil, e => by simp at e
  | _, _, 0, _, .cons q _, e => by simp at e; subst e; exact ⟨_, rfl, q⟩
  | _, _, i + 1, w, .cons _ r, e => by
    obtain ⟨v, h1, h2⟩ := RepL.get (i := i) (w := w) r (by simpa using e)
    exact ⟨v, by simpa using h1, h2⟩
theorem RepL.append : ∀ {ws ws' : List W} {vs vs' : List V}, RepL K H ρ ws vs → RepL K H ρ ws' vs' → RepL K H ρ (ws ++ ws') (vs ++ vs')
  | _, _, _, _, .nil, s => s
  | _, _, _, _, .cons q r, s => .cons q (RepL.append r s)
theorem RepL.drop : ∀ {ws : List W} {vs : List V} (n : Nat), RepL K H ρ ws vs → RepL K H ρ (ws.drop n) (vs.drop n)
  | _, _, 0, r => r
  | _, _, _ + 1, .nil => .nil
  | _, _, n + 1, .cons _ r => RepL.drop n r
theorem RepL.take : ∀ {ws : List W} {vs : List V} (n : Nat), RepL K H ρ ws vs → RepL K H ρ (ws.take n) (vs.take n)
  | _, _, 0, _ => .nil
  | _, _, _ + 1, .nil => .nil
  | _, _, n + 1, .cons q r => .cons q (RepL.take n r)
theorem RepL.set {w : W} {v : V} (q : Rep K H ρ w v) : ∀ {ws : List W} {vs : List V} (i : Nat), RepL K H ρ ws vs → RepL K H ρ (ws.set i w) (vs.set i v)
  | _, _, _, .nil => .nil
  | _, _, 0, .cons _ r => .cons q r
  | _, _, i + 1, .cons p r => .cons p (RepL.set q i r)
theorem RepL.reverse : ∀ {ws : List W} {vs : List V}, RepL K H ρ ws vs → RepL K H ρ ws.reverse vs.reverse
  | _, _, .nil => .nil
  | _, _, .cons q r => by simp only [List.reverse_cons]; exact RepL.append (RepL.reverse r) (.cons q .nil)
end

abbrev RepC (K : PySem.W.Frag) (c : Cf) : W → V → Prop := Rep K c.fz c.ρ
abbrev RepLC (K : PySem.W.Frag) (c : Cf) : List W → List V → Prop := RepL K c.fz c.ρ
/-- what may be read of a slot's thing, where it stands -/
inductive Pk (K : PySem.W.Frag) (c : Cf) : O → V → Prop
  | w {x : W} {v : V} : RepC K c x v → Pk K c (.w x) v
  | ol {a : Addr} {ws : List W} {vs : List V} : c.H a = some (.lst vs) → RepLC K c ws vs → ws.length ≤ LIM → Pk K c (.ol ws) (.ref a)
  | od {a : Addr} {ws : List (Key × W)} {vs : List (Key × V)} : c.H a = some (.dK vs) → RepD K c.fz c.ρ ws vs → ws.length ≤ LIM → Pk K c (.od ws) (.ref a)
  | ot {a : Addr} {ws : List (List Key × W)} {vs : List (List Key × V)} : c.H a = some (.dT vs) → RepT K c.fz c.ρ ws vs → ws.length ≤ LIM → Pk K c (.ot ws) (.ref a)
/-- .. and it is the place's own -/
def Own (c : Cf) (p : Place) : O → V → Prop
  | .w _, _ => True
  | _, v => ∃ a, v = .ref a ∧ c.ow a = some p
structure Hd (K : PySem.W.Frag) (c : Cf) (p : Place) (o : O) (v : V) : Prop where
  pk : Pk K c o v
  own : Own c p o v

structure EnvR (K : PySem.W.Frag) (c : Cf) (env : Env) (σ : L2.St) : Prop where
  len : env.length = σ.length
  at_ : ∀ (i : Nat) (o : O), env[i]? = some (some o) → ∃ v, σ[i]? = some (some v) ∧ Hd K c (.env i) o v
inductive FldR (K : PySem.W.Frag) (c : Cf) (n : Nat) : List (Str × O) → List (Key × V) → Prop
  | nil : FldR K c n [] []
  | cons {f : Str} {o : O} {v : V} {fs : List (Str × O)} {vs : List (Key × V)} : Hd K c (.fld n f) o v → FldR K c n fs vs → FldR K c n ((f, o) :: fs) ((.inr f, v) :: vs)
inductive ObR (K : PySem.W.Frag) (c : Cf) (n : Nat) (ob : Ob) (a : Addr) : Prop
  | dict {vs : List (Key × V)} : ob.cls = none → c.ow a = some (.obj n) → c.H a = some (.dK vs) → FldR K c n ob.fs vs → ObR K c n ob a
structure StR (K : PySem.W.Frag) (c : Cf) (st : Store) : Prop where
  len : st.length = c.ρ.length
  at_ : ∀ (n : Nat) (ob : Ob), st[n]? = some ob → ∃ a, c.ρ[n]? = some a ∧ ObR K c n ob a
def Wf (c : Cf) : Prop := ∀ a p, c.ow a = some p → ∃ o, c.H a = some o

def Place.mine : Place → Bool
  | .env _ => true
  | .out => true
  | _ => false
/-- an expression has run -/
structure Ext (m : Bool) (c c' : Cf) (st st' : Store) : Prop where
  frz : ∀ a o, c.ow a = none → c.H a = some o → c'.ow a = none ∧ c'.H a = some o
  own : ∀ a p, c.ow a = some p → p.mine = true → c'.ow a = some p ∧ c'.H a = c.H a
  loc : ∀ (n : Nat) (a : Addr), c.ρ[n]? = some a → c'.ρ[n]? = some a
  still : m = true → st' = st ∧ ∀ a o, c.H a = some o → c'.ow a = c.ow a ∧ c'.H a = some o
/-- a statement has run -/
structure ExS (c c' : Cf) : Prop where
  frz : ∀ a o, c.ow a = none → c.H a = some o → c'.ow a = none ∧ c'.H a = some o
  out : ∀ a, c.ow a = some .out → c'.ow a = some .out ∧ c'.H a = c.H a
  loc : ∀ (n : Nat) (a : Addr), c.ρ[n]? = some a → c'.ρ[n]? = some a

section
variable {K : PySem.W.Frag} {m : Bool} {c c1 c2 : Cf} {st st1 st2 : Store} {env : Env} {σ : L2.St}
theorem Ext.refl (m : Bool) (c : Cf) (st : Store) : Ext m c c st st := ⟨fun _ _ h h' => ⟨h, h'⟩, fun _ _ h _ => ⟨h, rfl⟩, fun _ _ h => h, fun _ => ⟨rfl, fun _ _ h => ⟨rfl, h⟩⟩⟩
theorem Ext.trans (a : Ext m c c1 st st1) (b : Ext m c1 c2 st1 st2) : Ext m c c2 st st2 where
  frz := fun x o h h' => let ⟨p, q⟩ := a.frz x o h h'; b.frz x o p q
  own := fun x p h h' => by
    obtain ⟨q, r⟩ := a.own x p h h'
    obtain ⟨q', r'⟩ := b.own x p q h'
    exact ⟨q', r'.trans r⟩
  loc := fun n x h => b.loc n x (a.loc n x h)
  still := fun h => by
    obtain ⟨e1, h1⟩ := a.still h
    obtain ⟨e2, h2⟩ := b.still h
    refine ⟨e2.trans e1, fun x o q => ?_⟩
    obtain ⟨p1, q1⟩ := h1 x o q
    obtain ⟨p2, q2⟩ := h2 x o q1
    exact ⟨p2.trans p1, q2⟩
theorem Ext.gen (a : Ext m c c1 st st1) : Ext false c c1 st st1 := ⟨a.frz, a.own, a.loc, fun h => nomatch h⟩
theorem Ext.s (a : Ext m c c1 st st1) : ExS c c1 := ⟨a.frz, fun x h => a.own x .out h rfl, a.loc⟩
theorem ExS.refl (c : Cf) : ExS c c := ⟨fun _ _ h h' => ⟨h, h'⟩, fun _ h => ⟨h, rfl⟩, fun _ _ h => h⟩
theorem ExS.trans (a : ExS c c1) (b : ExS c1 c2) : ExS c c2 where
  frz := fun x o h h' => let ⟨p, q⟩ := a.frz x o h h'; b.frz x o p q
  out := fun x h => by
    obtain ⟨q, r⟩ := a.out x h
    obtain ⟨q', r'⟩ := b.out x q
    exact ⟨q', r'.trans r⟩
  loc := fun n x h => b.loc n x (a.loc n x h)
theorem fz_le (h : ∀ a o, c.ow a = none → c.H a = some o → c1.ow a = none ∧ c1.H a = some o) : ∀ a o, c.fz a = some o → c1.fz a = some o := fun a o q => by
  obtain ⟨p, q⟩ := Cf.of_fz q
  obtain ⟨p', q'⟩ := h a o p q
  rw [Cf.fz_of p']; exact q'
theorem Ext.rep (a : Ext m c c1 st st1) {w : W} {v : V} (r : RepC K c w v) : RepC K c1 w v := r.mono (fz_le a.frz) a.loc
theorem Ext.repL (a : Ext m c c1 st st1) {w : List W} {v : List V} (r : RepLC K c w v) : RepLC K c1 w v := r.mono (fz_le a.frz) a.loc
theorem ExS.rep (a : ExS c c1) {w : W} {v : V} (r : RepC K c w v) : RepC K c1 w v := r.mono (fz_le a.frz) a.loc
theorem ExS.repL (a : ExS c c1) {w : List W} {v : List V} (r : RepLC K c w v) : RepLC K c1 w v := r.mono (fz_le a.frz) a.loc
/-- a place's own thing is kept where the place is ours -/
theorem Hd.keep {p : Place} {o : O} {v : V} (h : Hd K c p o v) (hf : ∀ a o, c.ow a = none → c.H a = some o → c1.ow a = none ∧ c1.H a = some o) (hl : ∀ (n : Nat) (a : Addr), c.ρ[n]? = some a → c1.ρ[n]? = some a)
    (hp : ∀ a, c.ow a = some p → c1.ow a = some p ∧ c1.H a = c.H a) : Hd K c1 p o v := by
  obtain ⟨pk, ow⟩ := h
  cases pk with
  | w r => exact ⟨.w (r.mono (fz_le hf) hl), trivial⟩
  | ol e r z =>
    obtain ⟨a, q, w⟩ := ow
    cases q
    obtain ⟨w', e'⟩ := hp _ w
    exact ⟨.ol (e'.trans e) (r.mono (fz_le hf) hl) z, _, rfl, w'⟩
  | od e r z =>
    obtain ⟨a, q, w⟩ := ow
    cases q
    obtain ⟨w', e'⟩ := hp _ w
    exact ⟨.od (e'.trans e) (r.mono (fz_le hf) hl) z, _, rfl, w'⟩
  | ot e r z =>
    obtain ⟨a, q, w⟩ := ow
    cases q
    obtain ⟨w', e'⟩ := hp _ w
    exact ⟨.ot (e'.trans e) (r.mono (fz_le hf) hl) z, _, rfl, w'⟩
theorem Ext.envR (a : Ext m c c1 st st1) (e : EnvR K c env σ) : EnvR K c1 env σ := ⟨e.len, fun i o h => by
  obtain ⟨v, h1, h2⟩ := e.at_ i o h
  exact ⟨v, h1, h2.keep a.frz a.loc fun x q => a.own x _ q rfl⟩⟩
end

/-- the state of a def that runs -/
structure Sm (K : PySem.W.Frag) (c : Cf) (env : Env) (st : Store) (σ : L2.St) : Prop where
  e : EnvR K c env σ
  s : StR K c st
  wf : Wf c

/-! ### the judgements -/
abbrev Ef := Env → Store → R W
abbrev Af := Env → Store → R (List W)
abbrev Pf := Env → Store → Option O
inductive Fl where
  | nx (env : Env)
  | rt (w : W)
abbrev Sf := Env → Store → R Fl
/-- a def's meaning -/
abbrev Df := List W → Store → R W

def tEf (K : PySem.W.Frag) (m : Bool) (f : Ef) : TE := fun σ H Q => ∃ ow ρ env st, Sm K ⟨ow, H, ρ⟩ env st σ ∧ ∃ w st', f env st = .ok w st' ∧
  ∀ v c', Ext m ⟨ow, H, ρ⟩ c' st st' → StR K c' st' → Wf c' → RepC K c' w v → Q v c'.H
def tAf (K : PySem.W.Frag) (m : Bool) (f : Af) : TA := fun σ H Q => ∃ ow ρ env st, Sm K ⟨ow, H, ρ⟩ env st σ ∧ ∃ ws st', f env st = .ok ws st' ∧
  ∀ vs c', Ext m ⟨ow, H, ρ⟩ c' st st' → StR K c' st' → Wf c' → RepLC K c' ws vs → Q vs c'.H
/-- a test -/
abbrev Tf := Env → Store → R Bool
def tTf (K : PySem.W.Frag) (m : Bool) (f : Tf) : TT := fun σ H Q => ∃ ow ρ env st, Sm K ⟨ow, H, ρ⟩ env st σ ∧ ∃ b st', f env st = .ok b st' ∧
  ∀ c', Ext m ⟨ow, H, ρ⟩ c' st st' → StR K c' st' → Wf c' → Q b c'.H
/-- a thing where it stands -/
def tPf (K : PySem.W.Frag) (p : Pf) : TE := fun σ H Q => ∃ ow ρ env st, Sm K ⟨ow, H, ρ⟩ env st σ ∧ ∃ o, p env st = some o ∧ ∀ v, Pk K ⟨ow, H, ρ⟩ o v → Q v H
def tSf (K : PySem.W.Frag) (f : Sf) : TS := fun D σ H => ∃ ow ρ env st, Sm K ⟨ow, H, ρ⟩ env st σ ∧ ∃ fl st', f env st = .ok fl st' ∧
  match fl with
  | .nx env' => ∀ σ' c', Sm K c' env' st' σ' → ExS ⟨ow, H, ρ⟩ c' → D.nx σ' c'.H
  | .rt w => ∀ v c', StR K c' st' → Wf c' → RepC K c' w v → ExS ⟨ow, H, ρ⟩ c' → D.rt v c'.H

structure EV (m : Bool) (X : Cx) (e : Expr) (f : Ef) : Prop where
  pe : PE X e (tEf X.K m f)
structure AV (m : Bool) (X : Cx) (es : List Expr) (f : Af) : Prop where
  pa : PA X es (tAf X.K m f)
structure TV (m : Bool) (X : Cx) (e : Expr) (f : Tf) : Prop where
  pt : PT X e (tTf X.K m f)
structure PV (X : Cx) (e : Expr) (p : Pf) : Prop where
  pe : PE X e (tPf X.K p)
structure SV (X : Cx) (s : Stmt) (f : Sf) : Prop where
  ps : PS X s (tSf X.K f)
structure SSV (X : Cx) (s : List Stmt) (f : Sf) : Prop where
  pss : PSs X s (tSf X.K f)

/-! ### consequence -/
section
variable {X : Cx}
theorem _root_.L2.PE.imp {e : Expr} {t t' : TE} (h : PE X e t) (i : ∀ σ H Q, t' σ H Q → t σ H Q) : PE X e t' := ⟨fun pins s σ H Q I q => h.run pins s σ H Q I (i σ H Q q)⟩
theorem _root_.L2.PA.imp {e : List Expr} {t t' : TA} (h : PA X e t) (i : ∀ σ H Q, t' σ H Q → t σ H Q) : PA X e t' := ⟨fun pos pins s σ H Q I q => h.run pos pins s σ H Q I (i σ H Q q)⟩
theorem _root_.L2.PT.imp {e : Expr} {t t' : TT} (h : PT X e t) (i : ∀ σ H Q, t' σ H Q → t σ H Q) : PT X e t' := ⟨fun pins s σ H Q I q => h.run pins s σ H Q I (i σ H Q q)⟩
theorem _root_.L2.PS.imp {e : Stmt} {t t' : TS} (h : PS X e t) (i : ∀ D σ H, t' D σ H → t D σ H) : PS X e t' := ⟨fun pins s σ H D I q => h.run pins s σ H D I (i D σ H q)⟩
theorem _root_.L2.PSs.imp {e : List Stmt} {t t' : TS} (h : PSs X e t) (i : ∀ D σ H, t' D σ H → t D σ H) : PSs X e t' := ⟨fun pins s σ H D I q => h.run pins s σ H D I (i D σ H q)⟩
/-- an expression's thing is locked, for ever -/
theorem _root_.L2.PE.lock {e : Expr} {t : TE} (h : PE X e t) : PE X e (fun σ H Q => t σ H fun v H1 => ∃ d u, H1 d = some u ∧ Mut (some u) ∧ ∀ od, Q v (upd H1 d (.frz od u))) := by
  refine ⟨fun pins s σ H Q I hw => ?_⟩
  refine thn (h.run pins s σ H _ I hw) fun v s1 ⟨x, H1, I1, r, d, u, hd, mu, q⟩ => ?_
  obtain ⟨od, I2⟩ := I1.lock hd mu
  exact ⟨x, _, I2, r, q od⟩
end
end Cr
/-! Cr2: expressions: names, constants, arithmetic, comparisons, tests. -/
namespace Cr
open PySem PySem.Spec PyProof.Rows L2

section
variable {K : PySem.W.Frag} {m : Bool} {c c1 c2 : Cf} {st st1 st2 : Store} {env : Env} {σ : L2.St}
theorem Ext.any (a : Ext true c c1 st st1) : Ext m c c1 st st1 := ⟨a.frz, a.own, a.loc, fun _ => a.still rfl⟩
theorem Ext.st_eq (a : Ext true c c1 st st1) : st1 = st := (a.still rfl).1
theorem FldR.keep {n : Nat} (hf : ∀ a o, c.ow a = none → c.H a = some o → c1.ow a = none ∧ c1.H a = some o) (hl : ∀ (n : Nat) (a : Addr), c.ρ[n]? = some a → c1.ρ[n]? = some a) (hp : ∀ a f, c.ow a = some (.fld n f) → c1.ow a = some (.fld n f) ∧ c1.H a = c.H a) :
    ∀ {fs : List (Str × O)} {vs : List (Key × V)}, FldR K c n fs vs → FldR K c1 n fs vs
  | _, _, .nil => .nil
  | _, _, .cons h r => .cons (h.keep hf hl fun a e => hp a _ e) (FldR.keep hf hl hp r)
theorem StR.still (s : StR K c st) (wf : Wf c) (h : ∀ a o, c.H a = some o → c1.ow a = c.ow a ∧ c1.H a = some o) (e : c1.ρ = c.ρ) : StR K c1 st := by
  have hf : ∀ a o, c.ow a = none → c.H a = some o → c1.ow a = none ∧ c1.H a = some o := fun a o q r => let ⟨x, y⟩ := h a o r; ⟨x.trans q, y⟩
  have hp : ∀ a p, c.ow a = some p → c1.ow a = some p ∧ c1.H a = c.H a := fun a p q => by
    obtain ⟨o, r⟩ := wf a p q
    obtain ⟨x, y⟩ := h a o r
    exact ⟨x.trans q, y.trans r.symm⟩
  refine ⟨s.len.trans (by rw [e]), fun n ob q => ?_⟩
  obtain ⟨a, h1, h2⟩ := s.at_ n ob q
  refine ⟨a, by rw [e]; exact h1, ?_⟩
  cases h2 with
  | dict e1 e2 e3 r =>
    obtain ⟨x, y⟩ := hp _ _ e2
    exact .dict e1 x (y.trans e3) (r.keep hf (fun n a z => by rw [e]; exact z) fun a f z => hp _ _ z)
/-- a new thing that stands for ever -/
theorem alloc (K : PySem.W.Frag) (st : Store) {c : Cf} {p : Addr} (o : HO) (wf : Wf c) (hp : c.H p = none) :
    Ext true c ⟨c.ow, upd c.H p o, c.ρ⟩ st st ∧ (StR K c st → StR K ⟨c.ow, upd c.H p o, c.ρ⟩ st) ∧ Wf ⟨c.ow, upd c.H p o, c.ρ⟩ ∧ Cf.fz ⟨c.ow, upd c.H p o, c.ρ⟩ p = some o := by
  have op : c.ow p = none := by
    cases q : c.ow p with
    | none => rfl
    | some x => obtain ⟨u, e⟩ := wf p x q; rw [hp] at e; cases e
  have keep : ∀ a u, c.H a = some u → c.ow a = c.ow a ∧ upd c.H p o a = some u := fun a u e => ⟨rfl, by rw [upd_ne (ne_of_none e hp)]; exact e⟩
  refine ⟨⟨fun a u h e => ⟨h, (keep a u e).2⟩, fun a x h _ => ⟨h, ?_⟩, fun _ _ e => e, fun _ => ⟨rfl, keep⟩⟩, fun s => s.still wf keep rfl, fun a x h => ?_, ?_⟩
  · obtain ⟨u, e⟩ := wf a x h
    exact ((keep a u e).2).trans e.symm
  · obtain ⟨u, e⟩ := wf a x h
    exact ⟨u, (keep a u e).2⟩
  · rw [Cf.fz_of (show (Cf.mk c.ow (upd c.H p o) c.ρ).ow p = none from op)]
    exact upd_same
end

/-! ### what a rule by values gives -/
/-- two values -/
def Op2 (K : PySem.W.Frag) (r : R2) (g : W → W → Store → R W) : Prop :=
  ∀ (c : Cf) (st : Store) (x y : W) (vx vy : V) (w : W) (st' : Store) (Q : VK), StR K c st → Wf c → RepC K c x vx → RepC K c y vy → g x y st = .ok w st' →
    (∀ v c', Ext true c c' st st' → StR K c' st' → Wf c' → RepC K c' w v → Q v c'.H) → r vx vy c.H Q
def bin (g : W → W → Store → R W) (fa fb : Ef) : Ef := fun env st => (fa env st).bind fun x st1 => (fb env st1).bind fun y st2 => g x y st2
section
variable {X : Cx} {m : Bool} {a b : Expr} {fa fb : Ef} {pos : Pos}
theorem Sm.ext {K : PySem.W.Frag} {c c1 : Cf} {env : Env} {st st1 : Store} {σ : L2.St} (S : Sm K c env st σ) (x : Ext m c c1 st st1) (s : StR K c1 st1) (wf : Wf c1) : Sm K ⟨c1.ow, c1.H, c1.ρ⟩ env st1 σ := ⟨x.envR S.e, s, wf⟩
theorem op2 {K : PySem.W.Frag} {r : R2} {g : W → W → Store → R W} (hg : Op2 K r g) : ∀ σ H Q, tEf K m (bin g fa fb) σ H Q → tOp r (tEf K m fa) (tEf K m fb) σ H Q := by
  rintro σ H Q ⟨ow, ρ, env, st, S, w, st', e, q⟩
  obtain ⟨x, st1, e1, e⟩ := R.bind_ok e
  obtain ⟨y, st2, e2, e⟩ := R.bind_ok e
  refine ⟨ow, ρ, env, st, S, x, st1, e1, fun vx c1 x1 s1 w1 r1 => ?_⟩
  refine ⟨c1.ow, c1.ρ, env, st1, S.ext x1 s1 w1, y, st2, e2, fun vy c2 x2 s2 w2 r2 => ?_⟩
  exact hg c2 st2 x y vx vy w st' Q s2 w2 (x2.rep r1) r2 e fun v c' x3 s3 w3 r3 => q v c' ((x1.trans x2).trans x3.any) s3 w3 r3
theorem e_op {op : Operator} {r : R2} {g : W → W → Store → R W} (ho : OpR X (binaryOp op) r) (hg : Op2 X.K r g) (ha : EV m X a fa) (hb : EV m X b fb) : EV m X (.BinOp a op b pos) (bin g fa fb) :=
  ⟨(pe_op ho ha.pe hb.pe).imp (op2 hg)⟩
end

/-! ### names, constants -/
def var_ (i : Nat) : Ef := fun env st => match env[i]? with
  | some (some (.w x)) => .ok x st
  | _ => .no
def cst_ (w : W) : Ef := fun _ st => .ok w st
/-- a slot's own thing, looked at -/
def pk_ (i : Nat) : Pf := fun env _ => match env[i]? with
  | some (some o) => some o
  | _ => none
section
variable {X : Cx} {m : Bool} {pos : Pos}
theorem e_var {i : Nat} {x : Str} (hN : X.N[i]? = some x) (hv : Vis X.env.scope x) (hd : (x == ("__debug__" : Str)) = false := by decide) (hcd : (x == ("__classdict__" : Str)) = false := by decide) : EV m X (.Name x pos) (var_ i) := by
  refine ⟨(pe_var hN hv hd hcd).imp ?_⟩
  rintro σ H Q ⟨ow, ρ, env, st, S, w, st', e, q⟩
  unfold var_ at e
  split at e
  · rename_i y hy
    cases e
    obtain ⟨v, h1, h2⟩ := S.e.at_ i _ hy
    obtain ⟨pk, _⟩ := h2
    cases pk with
    | w r => exact ⟨v, h1, q v ⟨ow, H, ρ⟩ (Ext.refl ..) S.s S.wf r⟩
  · cases e
theorem p_var {i : Nat} {x : Str} (hN : X.N[i]? = some x) (hv : Vis X.env.scope x) (hd : (x == ("__debug__" : Str)) = false := by decide) (hcd : (x == ("__classdict__" : Str)) = false := by decide) : PV X (.Name x pos) (pk_ i) := by
  refine ⟨(pe_var hN hv hd hcd).imp ?_⟩
  rintro σ H Q ⟨ow, ρ, env, st, S, o, e, q⟩
  unfold pk_ at e
  split at e
  · rename_i y hy
    cases e
    obtain ⟨v, h1, h2⟩ := S.e.at_ i _ hy
    exact ⟨v, h1, q v h2.pk⟩
  · cases e
theorem e_cst {e : Expr} {w : W} {v : V} (h : PE X e (tC v)) (r : ∀ H ρ, Rep X.K H ρ w v) : EV m X e (cst_ w) := by
  refine ⟨h.imp ?_⟩
  rintro σ H Q ⟨ow, ρ, env, st, S, w', st', e, q⟩
  cases e
  exact q v ⟨ow, H, ρ⟩ (Ext.refl ..) S.s S.wf (r _ _)
theorem e_int {i : Int} {j} : EV m X (.Constant (.int i) j pos) (cst_ (.int i)) := e_cst pe_int fun _ _ => .int i
theorem e_bl {b : Bool} {j} : EV m X (.Constant (.bool b) j pos) (cst_ (.bl b)) := e_cst pe_bl fun _ _ => .bl b
theorem e_non {j} : EV m X (.Constant .none j pos) (cst_ .non) := e_cst pe_non fun _ _ => .non
theorem e_str {x : Str} {j} (h : PyData.strOk x = true := by decide +kernel) (z : x.length ≤ LIM := by decide +kernel) : EV m X (.Constant (.str x) j pos) (cst_ (.str x)) := e_cst pe_str fun _ _ => .str x h z
end

/-! ### arithmetic -/
def addW : W → W → Store → R W
  | .int a, .int b, st => .ok (.int (a + b)) st
  | .str a, .str b, st => if a.length + b.length ≤ LIM then .ok (.str (a ++ b)) st else .no
  | .tup a, .tup b, st => if a.length + b.length ≤ LIM then .ok (.tup (a ++ b)) st else .no
  | .lst a, .lst b, st => if a.length + b.length ≤ LIM then .ok (.lst (a ++ b)) st else .no
  | _, _, _ => .no
def subW : W → W → Store → R W
  | .int a, .int b, st => .ok (.int (a - b)) st
  | _, _, _ => .no
def small (a : Int) : Bool := decide (-(2 ^ 64) < a ∧ a < 2 ^ 64)
def mulW : W → W → Store → R W
  | .int a, .int b, st => if small a || small b then .ok (.int (a * b)) st else .no
  | .lst a, .int k, st => if a.length * k.toNat ≤ LIM ∧ -(2 ^ 62) ≤ k ∧ k < 2 ^ 62 then .ok (.lst (List.replicate k.toNat a).flatten) st else .no
  | _, _, _ => .no
def divW : W → W → Store → R W
  | .int a, .int b, st => if b ≠ 0 ∧ b.natAbs < 1073741824 then .ok (.int (a.fdiv b)) st else .no
  | _, _, _ => .no
def modW : W → W → Store → R W
  | .int a, .int b, st => if b ≠ 0 then .ok (.int (a.fmod b)) st else .no
  | _, _, _ => .no
def powW : W → W → Store → R W
  | .int a, .int b, st => if 0 ≤ b ∧ b ≤ 1000000 ∧ a.natAbs < 2 ^ 64 then .ok (.int (a ^ b.toNat)) st else .no
  | _, _, _ => .no

theorem strOk_append {x y : Str} (h : PyData.strOk x = true) (h' : PyData.strOk y = true) : PyData.strOk (x ++ y) = true := by
  unfold PyData.strOk at *
  have e : (x ++ y).cps = x.cps ++ y.cps := rfl
  rw [e, Array.all_append, h, h', Bool.and_self]
theorem str_length_append (x y : Str) : (x ++ y).length = x.length + y.length := by
  show (x.cps ++ y.cps).size = _
  rw [Array.size_append]; rfl

section
variable {K : PySem.W.Frag}
theorem o_add : Op2 K (fun x y H Q => rI0 (fun i j => .int (i + j)) x y H Q ∨ (∃ i j, x = .str i ∧ y = .str j ∧ i.length + j.length ≤ sizeLine ∧ Q (.str (i ++ j)) H) ∨ rCatA K x y H Q ∨ rCat x y H Q) addW := by
  intro c st x y vx vy w st' Q s wf rx ry e q
  unfold addW at e
  split at e
  · cases e; cases rx; cases ry
    exact .inl ⟨_, _, rfl, rfl, q _ c (Ext.refl ..) s wf (.int _)⟩
  · split at e <;> cases e
    rename_i hz
    cases rx with
    | str _ o1 z1 =>
      cases ry with
      | str _ o2 z2 =>
        exact .inr (.inl ⟨_, _, rfl, rfl, by rw [lim_eq]; exact hz, q _ c (Ext.refl ..) s wf (.str _ (strOk_append o1 o2) (by rw [str_length_append]; exact hz))⟩)
  · split at e <;> cases e
    rename_i ws ws' _ hz
    cases rx with
    | tup h1 r1 z1 =>
      rename_i a vs
      cases ry with
      | tup h2 r2 z2 =>
        rename_i b us
        have g1 : SqT K c.H a vs := sqT_mono (fun _ _ e => (Cf.of_fz e).2) h1
        have g2 : SqT K c.H b us := sqT_mono (fun _ _ e => (Cf.of_fz e).2) h2
        have l1 := r1.length
        have l2 := r2.length
        refine .inr (.inr (.inl ⟨a, b, vs, us, rfl, rfl, g1, g2, by rw [lim_eq, ← l1, ← l2]; exact hz, fun e0 => ?_, fun e0 e1 => ?_, fun e0 e1 p hp => ?_⟩))
        · subst e0
          cases r1
          exact q _ c (Ext.refl ..) s wf (.tup h2 r2 z2)
        · subst e1
          cases r2
          rw [List.append_nil] at q
          exact q _ c (Ext.refl ..) s wf (.tup h1 r1 z1)
        · obtain ⟨x1, s1, w1, f1⟩ := alloc K st (.tup (vs ++ us)) wf hp
          exact q _ _ x1 (s1 s) w1 (.tup (.inl (.inl f1)) ((x1.repL r1).append (x1.repL r2)) (by rw [List.length_append]; exact hz))
  · split at e <;> cases e
    rename_i ws ws' _ hz
    cases rx with
    | lst h1 r1 z1 =>
      rename_i a vs
      cases ry with
      | lst h2 r2 z2 =>
        rename_i b us
        have l1 := r1.length
        have l2 := r2.length
        refine .inr (.inr (.inr ⟨a, b, vs, us, rfl, rfl, (Cf.of_fz h1).2, (Cf.of_fz h2).2, by rw [lim_eq, ← l1, ← l2]; exact hz, fun p hp => ?_⟩))
        obtain ⟨x1, s1, w1, f1⟩ := alloc K st (.lst (vs ++ us)) wf hp
        exact q _ _ x1 (s1 s) w1 (.lst f1 ((x1.repL r1).append (x1.repL r2)) (by rw [List.length_append]; exact hz))
  · cases e
theorem o_sub : Op2 K (rI0 fun i j => .int (i - j)) subW := by
  intro c st x y vx vy w st' Q s wf rx ry e q
  unfold subW at e
  split at e
  · cases e; cases rx; cases ry
    exact ⟨_, _, rfl, rfl, q _ c (Ext.refl ..) s wf (.int _)⟩
  · cases e
theorem o_div : Op2 K (rI CDivN fun i j => .int (i.fdiv j)) divW := by
  intro c st x y vx vy w st' Q s wf rx ry e q
  unfold divW at e
  split at e
  · split at e <;> cases e
    cases rx; cases ry
    rename_i h
    exact ⟨_, _, rfl, rfl, h, q _ c (Ext.refl ..) s wf (.int _)⟩
  · cases e
theorem o_mod : Op2 K (rI (fun _ j => j ≠ 0) fun i j => .int (i.fmod j)) modW := by
  intro c st x y vx vy w st' Q s wf rx ry e q
  unfold modW at e
  split at e
  · split at e <;> cases e
    cases rx; cases ry
    rename_i h
    exact ⟨_, _, rfl, rfl, h, q _ c (Ext.refl ..) s wf (.int _)⟩
  · cases e
theorem o_pow : Op2 K (rI CPow fun i j => .int (i ^ j.toNat)) powW := by
  intro c st x y vx vy w st' Q s wf rx ry e q
  unfold powW at e
  split at e
  · split at e <;> cases e
    cases rx; cases ry
    rename_i h
    exact ⟨_, _, rfl, rfl, h, q _ c (Ext.refl ..) s wf (.int _)⟩
  · cases e
theorem RepL.rep {H : Hp} {ρ : List Addr} {ws : List W} {vs : List V} (r : RepL K H ρ ws vs) : ∀ n : Nat, RepL K H ρ (List.replicate n ws).flatten (List.replicate n vs).flatten
  | 0 => .nil
  | n + 1 => by
    rw [List.replicate_succ, List.replicate_succ, List.flatten_cons, List.flatten_cons]
    exact r.append (RepL.rep r n)
theorem o_mul : Op2 K (fun x y H Q => rI CMul (fun i j => .int (i * j)) x y H Q ∨ rRep x y H Q) mulW := by
  intro c st x y vx vy w st' Q s wf rx ry e q
  unfold mulW at e
  split at e
  · split at e <;> cases e
    cases rx; cases ry
    rename_i h
    refine .inl ⟨_, _, rfl, rfl, ?_, q _ c (Ext.refl ..) s wf (.int _)⟩
    rcases Bool.or_eq_true_iff.mp h with h | h
    · exact .inl (of_decide_eq_true h)
    · exact .inr (of_decide_eq_true h)
  · split at e <;> cases e
    cases rx with
    | lst h1 r1 z1 =>
      cases ry
      rename_i h a vs
      obtain ⟨hz, k1, k2⟩ := h
      have l1 := r1.length
      refine .inr ⟨a, _, vs, rfl, rfl, (Cf.of_fz h1).2, by omega, by omega, by rw [lim_eq, ← l1]; exact hz, fun p hp => ?_⟩
      obtain ⟨x1, s1, w1, f1⟩ := alloc K st (.lst (List.replicate _ vs).flatten) wf hp
      refine q _ _ x1 (s1 s) w1 (.lst f1 ((x1.repL r1).rep _) ?_)
      rw [List.length_flatten, List.map_replicate, List.sum_replicate_nat, Nat.mul_comm]
      exact hz
  · cases e
end
section
variable {X : Cx} {m : Bool} {a b : Expr} {fa fb : Ef} {pos : Pos}
theorem e_add (ha : EV m X a fa) (hb : EV m X b fb) : EV m X (.BinOp a .Add b pos) (bin addW fa fb) := e_op (op_add.or (op_add_str.or (op_catA.or op_cat))) o_add ha hb
theorem e_sub (ha : EV m X a fa) (hb : EV m X b fb) : EV m X (.BinOp a .Sub b pos) (bin subW fa fb) := e_op op_sub o_sub ha hb
theorem e_mul (ha : EV m X a fa) (hb : EV m X b fb) : EV m X (.BinOp a .Mult b pos) (bin mulW fa fb) := e_op (op_mul.or op_rep) o_mul ha hb
theorem e_div (ha : EV m X a fa) (hb : EV m X b fb) : EV m X (.BinOp a .FloorDiv b pos) (bin divW fa fb) := e_op op_fdivN o_div ha hb
theorem e_mod (ha : EV m X a fa) (hb : EV m X b fb) : EV m X (.BinOp a .Mod b pos) (bin modW fa fb) := e_op op_modN o_mod ha hb
theorem e_pow (ha : EV m X a fa) (hb : EV m X b fb) : EV m X (.BinOp a .Pow b pos) (bin powW fa fb) := e_op op_pow o_pow ha hb
def neg_ (fa : Ef) : Ef := fun env st => (fa env st).bind fun x st1 => match x with
  | .int i => .ok (.int (-i)) st1
  | _ => .no
theorem e_neg (ha : EV m X a fa) : EV m X (.UnaryOp .USub a pos) (neg_ fa) := by
  refine ⟨(pe_un un_neg ha.pe).imp ?_⟩
  rintro σ H Q ⟨ow, ρ, env, st, S, w, st', e, q⟩
  obtain ⟨x, st1, e1, e⟩ := R.bind_ok e
  refine ⟨ow, ρ, env, st, S, x, st1, e1, fun vx c1 x1 s1 w1 r1 => ?_⟩
  split at e
  · cases e
    cases r1
    exact ⟨_, rfl, q _ c1 x1 s1 w1 (.int _)⟩
  · cases e
end
end Cr
/-! Cr3: things looked at; comparisons, tests, subscripts, slices, displays. -/
namespace Cr
open PySem PySem.Spec PyProof.Rows L2

/-- the content of a slot's thing -/
def O.view : O → W
  | .w x => x
  | .ol xs => .lst xs
  | .od kvs => .dct kvs
  | .ot kvs => .dtt kvs
  | .oll _ => .ref 0
/-- what may be read -/
inductive View (K : PySem.W.Frag) (c : Cf) : W → V → Prop
  | of {w : W} {v : V} : RepC K c w v → View K c w v
  | lst {a : Addr} {ws : List W} {vs : List V} : c.H a = some (.lst vs) → RepLC K c ws vs → ws.length ≤ LIM → View K c (.lst ws) (.ref a)
  | dct {a : Addr} {ws : List (Key × W)} {vs : List (Key × V)} : c.H a = some (.dK vs) → RepD K c.fz c.ρ ws vs → ws.length ≤ LIM → View K c (.dct ws) (.ref a)
  | dtt {a : Addr} {ws : List (List Key × W)} {vs : List (List Key × V)} : c.H a = some (.dT vs) → RepT K c.fz c.ρ ws vs → ws.length ≤ LIM → View K c (.dtt ws) (.ref a)
theorem Pk.view {K : PySem.W.Frag} {c : Cf} {o : O} {v : V} (h : Pk K c o v) : View K c o.view v := by
  cases h with
  | w r => exact .of r
  | ol e r z => exact .lst e r z
  | od e r z => exact .dct e r z
  | ot e r z => exact .dtt e r z
section
variable {K : PySem.W.Frag} {c : Cf}
theorem fz_sub {c : Cf} : ∀ a o, c.fz a = some o → c.H a = some o := fun _ _ e => (Cf.of_fz e).2
theorem View.asL {ws : List W} {v : V} (h : View K c (.lst ws) v) : ∃ a vs, v = .ref a ∧ c.H a = some (.lst vs) ∧ RepLC K c ws vs ∧ ws.length ≤ LIM := by
  cases h with
  | of r => cases r with
    | lst e r z => exact ⟨_, _, rfl, fz_sub _ _ e, r, z⟩
  | lst e r z => exact ⟨_, _, rfl, e, r, z⟩
theorem View.asT {ws : List W} {v : V} (h : View K c (.tup ws) v) : ∃ a vs, v = .ref a ∧ SqT K c.H a vs ∧ RepLC K c ws vs ∧ ws.length ≤ LIM ∧ RepC K c (.tup ws) v := by
  cases h with
  | of r => cases r with
    | tup e r z => exact ⟨_, _, rfl, sqT_mono fz_sub e, r, z, .tup e r z⟩
theorem View.asD {ws : List (Key × W)} {v : V} (h : View K c (.dct ws) v) : ∃ a vs, v = .ref a ∧ Rd c.H a (.dK vs) ∧ RepD K c.fz c.ρ ws vs ∧ ws.length ≤ LIM := by
  cases h with
  | of r => cases r with
    | dct e r z => exact ⟨_, _, rfl, .inr ⟨_, fz_sub _ _ e⟩, r, z⟩
  | dct e r z => exact ⟨_, _, rfl, .inl e, r, z⟩
theorem View.asDT {ws : List (List Key × W)} {v : V} (h : View K c (.dtt ws) v) : ∃ a vs, v = .ref a ∧ Rd c.H a (.dT vs) ∧ RepT K c.fz c.ρ ws vs ∧ ws.length ≤ LIM := by
  cases h with
  | of r => cases r with
    | dtt e r z => exact ⟨_, _, rfl, .inr ⟨_, fz_sub _ _ e⟩, r, z⟩
  | dtt e r z => exact ⟨_, _, rfl, .inl e, r, z⟩
theorem View.asS {x : Str} {v : V} (h : View K c (.str x) v) : v = .str x ∧ PyData.strOk x = true ∧ x.length ≤ LIM := by
  cases h with
  | of r => cases r with
    | str _ a b => exact ⟨rfl, a, b⟩
theorem View.asI {x : Int} {v : V} (h : View K c (.int x) v) : v = .int x := by
  cases h with
  | of r => cases r; rfl
theorem View.asB {x : Bool} {v : V} (h : View K c (.bl x) v) : v = .bl x := by
  cases h with
  | of r => cases r; rfl
theorem View.asN {v : V} (h : View K c .non v) : v = .non := by
  cases h with
  | of r => cases r; rfl
theorem View.asR {n : Nat} {v : V} (h : View K c (.ref n) v) : ∃ a, v = .ref a ∧ c.ρ[n]? = some a := by
  cases h with
  | of r => cases r with
    | ref e => exact ⟨_, rfl, e⟩
end

/-! ### the judgement -/
/-- a thing that is looked at; it stays while m2's runs go on -/
def tOf (K : PySem.W.Frag) (m m2 : Bool) (f : Ef) : TE := fun σ H Q => ∃ ow ρ env st, Sm K ⟨ow, H, ρ⟩ env st σ ∧ ∃ w st', f env st = .ok w st' ∧
  ∀ v c', Ext m ⟨ow, H, ρ⟩ c' st st' → StR K c' st' → Wf c' → View K c' w v → (∀ c2 st2, Ext m2 c' c2 st' st2 → View K c2 w v) → Q v c'.H
structure OV (m m2 : Bool) (X : Cx) (e : Expr) (f : Ef) : Prop where
  pe : PE X e (tOf X.K m m2 f)
section
variable {X : Cx} {m m2 : Bool} {e : Expr} {f : Ef} {pos : Pos}
theorem o_e (h : EV m X e f) : OV m m2 X e f := by
  refine ⟨h.pe.imp ?_⟩
  rintro σ H Q ⟨ow, ρ, env, st, S, w, st', e, q⟩
  exact ⟨ow, ρ, env, st, S, w, st', e, fun v c' x s wf r => q v c' x s wf (.of r) fun c2 st2 y => .of (y.rep r)⟩
/-- the thing at a slot -/
def look_ (i : Nat) : Ef := fun env st => match env[i]? with
  | some (some o) => .ok o.view st
  | _ => .no
theorem o_var {i : Nat} {x : Str} (hN : X.N[i]? = some x) (hv : Vis X.env.scope x) (hd : (x == ("__debug__" : Str)) = false := by decide) (hcd : (x == ("__classdict__" : Str)) = false := by decide) : OV m m2 X (.Name x pos) (look_ i) := by
  refine ⟨(pe_var hN hv hd hcd).imp ?_⟩
  rintro σ H Q ⟨ow, ρ, env, st, S, w, st', e, q⟩
  unfold look_ at e
  split at e
  · rename_i y hy
    cases e
    obtain ⟨v, h1, h2⟩ := S.e.at_ i _ hy
    exact ⟨v, h1, q v ⟨ow, H, ρ⟩ (Ext.refl ..) S.s S.wf h2.pk.view fun c2 st2 x => (h2.keep x.frz x.loc fun a e => x.own a _ e rfl).pk.view⟩
  · cases e
end

/-! ### operators over things looked at -/
def Ov2 (K : PySem.W.Frag) (r : R2) (g : W → W → Store → R W) : Prop :=
  ∀ (c : Cf) (st : Store) (x y : W) (vx vy : V) (w : W) (st' : Store) (Q : VK), StR K c st → Wf c → View K c x vx → View K c y vy → g x y st = .ok w st' →
    (∀ v c', Ext true c c' st st' → StR K c' st' → Wf c' → RepC K c' w v → Q v c'.H) → r vx vy c.H Q
section
variable {X : Cx} {m : Bool} {a b : Expr} {fa fb : Ef} {pos : Pos}
theorem ov2 {K : PySem.W.Frag} {r : R2} {g : W → W → Store → R W} (hg : Ov2 K r g) : ∀ σ H Q, tEf K m (bin g fa fb) σ H Q → tOp r (tOf K m m fa) (tOf K m true fb) σ H Q := by
  rintro σ H Q ⟨ow, ρ, env, st, S, w, st', e, q⟩
  obtain ⟨x, st1, e1, e⟩ := R.bind_ok e
  obtain ⟨y, st2, e2, e⟩ := R.bind_ok e
  refine ⟨ow, ρ, env, st, S, x, st1, e1, fun vx c1 x1 s1 w1 r1 k1 => ?_⟩
  refine ⟨c1.ow, c1.ρ, env, st1, S.ext x1 s1 w1, y, st2, e2, fun vy c2 x2 s2 w2 r2 _ => ?_⟩
  exact hg c2 st2 x y vx vy w st' Q s2 w2 (k1 _ _ x2) r2 e fun v c' x3 s3 w3 r3 => q v c' ((x1.trans x2).trans x3.any) s3 w3 r3
end

/-! ### data -/
mutual
def W.py : W → PyData
  | .non => .none
  | .bl b => .bool b
  | .int i => .int i
  | .str x => .str x
  | .tup xs => .tuple (W.pyL xs)
  | .lst xs => .list (W.pyL xs)
  | .dct _ => .dict []
  | .dtt _ => .dict []
  | .ref _ => .dict []
  | .scr _ => .dict []
def W.pyL : List W → List PyData
  | [] => []
  | x :: xs => W.py x :: W.pyL xs
end
/-- plain data, at most so deep -/
def W.fit : Nat → W → Bool
  | _, .non => true
  | _, .bl _ => true
  | _, .int _ => true
  | _, .str _ => true
  | n + 1, .tup xs => xs.all (W.fit n)
  | n + 1, .lst xs => xs.all (W.fit n)
  | _, _ => false
theorem pyL_map : ∀ xs : List W, W.pyL xs = xs.map W.py
  | [] => by simp [W.pyL]
  | x :: xs => by simp [W.pyL, pyL_map xs]
section
variable {K : PySem.W.Frag} {H : Hp} {ρ : List Addr}
mutual
theorem Rep.dp (n : Nat) : ∀ {w : W} {v : V}, Rep K H ρ w v → w.fit n = true → Dp K H v w.py ∧ w.py.canLay0 = true ∧ w.py.depth ≤ n
  | _, _, .non, _ => by unfold W.py; exact ⟨.non, by simp [PyData.canLay0], by simp [PyData.depth]⟩
  | _, _, .bl b, _ => by unfold W.py; exact ⟨.bl b, by simp [PyData.canLay0], by simp [PyData.depth]⟩
  | _, _, .int i, _ => by unfold W.py; exact ⟨.int i, by simp [PyData.canLay0], by simp [PyData.depth]⟩
  | _, _, .str x o z, _ => by unfold W.py; exact ⟨.str x, by simpa [PyData.canLay0] using o, by simp [PyData.depth]⟩
  | _, _, .tup q r z, f => by
    cases n with
    | zero => simp [W.fit] at f
    | succ n =>
      unfold W.py
      obtain ⟨d, l, k⟩ := RepL.dp n r (by simpa only [W.fit] using f)
      exact ⟨.tup q d, by simpa only [PyData.canLay0] using l, by simp only [PyData.depth]; omega⟩
  | _, _, .lst q r z, f => by
    cases n with
    | zero => simp [W.fit] at f
    | succ n =>
      unfold W.py
      obtain ⟨d, l, k⟩ := RepL.dp n r (by simpa only [W.fit] using f)
      exact ⟨.lst (SqL.of q) d, by simpa only [PyData.canLay0] using l, by simp only [PyData.depth]; omega⟩
  | _, _, .dct _ _ _, f => by cases n <;> simp [W.fit] at f
  | _, _, .dtt _ _ _, f => by cases n <;> simp [W.fit] at f
  | _, _, .ref _, f => by cases n <;> simp [W.fit] at f
  | _, _, .scr _ _, f => by cases n <;> simp [W.fit] at f
theorem RepL.dp (n : Nat) : ∀ {ws : List W} {vs : List V}, RepL K H ρ ws vs → ws.all (W.fit n) = true → DpAll K H vs (W.pyL ws) ∧ PyData.canLayAll0 (W.pyL ws) = true ∧ PyData.depthAll (W.pyL ws) ≤ n
  | _, _, .nil, _ => by unfold W.pyL; exact ⟨.nil, by simp [PyData.canLayAll0], by simp [PyData.depthAll]⟩
  | _, _, .cons q r, f => by
    rw [List.all_cons, Bool.and_eq_true] at f
    obtain ⟨d1, l1, k1⟩ := Rep.dp n q f.1
    obtain ⟨d2, l2, k2⟩ := RepL.dp n r f.2
    unfold W.pyL
    exact ⟨.cons d1 d2, by simp [PyData.canLayAll0, l1, l2], by simp only [PyData.depthAll]; omega⟩
end
end
theorem View.dp {K : PySem.W.Frag} {c : Cf} {w : W} {v : V} (h : View K c w v) (f : w.fit 60 = true) : Dp K c.H v w.py ∧ SeqAt.shaped w.py = true := by
  have sh : ∀ d : PyData, d.canLay0 = true → d.depth ≤ 60 → SeqAt.shaped d = true := fun d h1 h2 => by
    unfold SeqAt.shaped
    rw [h1, Bool.true_and]
    exact decide_eq_true (by omega)
  cases h with
  | of r =>
    obtain ⟨d, l, k⟩ := Rep.dp 60 (Rep.mono (ρ' := c.ρ) fz_sub (fun _ _ e => e) r) f
    exact ⟨d, sh _ l k⟩
  | lst e r z =>
    obtain ⟨d, l, k⟩ := RepL.dp 59 (RepL.mono (ρ' := c.ρ) fz_sub (fun _ _ e => e) r) (by simpa only [W.fit] using f)
    unfold W.py
    exact ⟨.lst (SqL.of e) d, sh _ (by simpa only [PyData.canLay0] using l) (by simp only [PyData.depth]; omega)⟩
  | dct e r z => simp [W.fit] at f
  | dtt e r z => simp [W.fit] at f

/-! ### comparisons -/
def eqW : W → W → Store → R W := fun x y st => if x.fit 60 && y.fit 60 then .ok (.bl (PyData.eqv x.py y.py)) st else .no
def neW : W → W → Store → R W := fun x y st => if x.fit 60 && y.fit 60 then .ok (.bl (!PyData.eqv x.py y.py)) st else .no
def ltW : W → W → Store → R W
  | .int a, .int b, st => .ok (.bl (decide (a < b))) st
  | _, _, _ => .no
def leW : W → W → Store → R W
  | .int a, .int b, st => .ok (.bl (decide (a ≤ b))) st
  | _, _, _ => .no
def gtW : W → W → Store → R W
  | .int a, .int b, st => .ok (.bl (decide (b < a))) st
  | _, _, _ => .no
def geW : W → W → Store → R W
  | .int a, .int b, st => .ok (.bl (decide (b ≤ a))) st
  | _, _, _ => .no
def W.isNon : W → Bool
  | .non => true
  | _ => false
def isW : W → W → Store → R W
  | x, .non, st => .ok (.bl x.isNon) st
  | .bl a, .bl b, st => .ok (.bl (decide (a = b))) st
  | _, _, _ => .no
def isnW : W → W → Store → R W
  | x, .non, st => .ok (.bl (!x.isNon)) st
  | .bl a, .bl b, st => .ok (.bl (!decide (a = b))) st
  | _, _, _ => .no
/-- the value at a key -/
def getW {κ : Type} [DecidableEq κ] (kvs : List (κ × W)) (k : κ) : Option W := (kvs.find? fun kv => decide (kv.1 = k)).map (·.2)
def putW {κ : Type} [DecidableEq κ] (kvs : List (κ × W)) (k : κ) (v : W) : List (κ × W) :=
  if (kvs.any fun kv => decide (kv.1 = k)) = true then kvs.map (fun kv => if kv.1 = k then (kv.1, v) else kv) else kvs ++ [(k, v)]
def W.key : W → Option Key
  | .int i => some (.inl i)
  | .str x => some (.inr x)
  | _ => none
/-- x in y -/
def inB : W → W → Option Bool
  | x, .tup ys => if x.fit 59 && ys.all (W.fit 59) then some (ys.any fun z => PyData.eqv z.py x.py) else none
  | x, .lst ys => if x.fit 59 && ys.all (W.fit 59) then some (ys.any fun z => PyData.eqv z.py x.py) else none
  | x, .dct kvs => (x.key).map fun k => (getW kvs k).isSome
  | .str x, .str y => match x.cps.toList with
    | [c] => some (decide (c ∈ y.cps.toList))
    | _ => none
  | _, _ => none
def inW : W → W → Store → R W := fun x y st => match inB x y with
  | some b => .ok (.bl b) st
  | none => .no
def ninW : W → W → Store → R W := fun x y st => match inB x y with
  | some b => .ok (.bl (!b)) st
  | none => .no
section
variable {K : PySem.W.Frag}
theorem v_eq : Ov2 K (rEqD K) eqW := by
  intro c st x y vx vy w st' Q s wf rx ry e q
  unfold eqW at e
  split at e
  · rename_i h
    rw [Bool.and_eq_true] at h
    cases e
    obtain ⟨d1, s1⟩ := rx.dp h.1
    obtain ⟨d2, s2⟩ := ry.dp h.2
    exact ⟨_, _, d1, d2, s1, s2, q _ c (Ext.refl ..) s wf (.bl _)⟩
  · cases e
theorem v_ne : Ov2 K (rNeD K) neW := by
  intro c st x y vx vy w st' Q s wf rx ry e q
  unfold neW at e
  split at e
  · rename_i h
    rw [Bool.and_eq_true] at h
    cases e
    obtain ⟨d1, s1⟩ := rx.dp h.1
    obtain ⟨d2, s2⟩ := ry.dp h.2
    exact ⟨_, _, d1, d2, s1, s2, q _ c (Ext.refl ..) s wf (.bl _)⟩
  · cases e
theorem v_lt : Ov2 K (rI0 fun i j => .bl (decide (i < j))) ltW := by
  intro c st x y vx vy w st' Q s wf rx ry e q
  unfold ltW at e
  split at e
  · cases e
    exact ⟨_, _, rx.asI, ry.asI, q _ c (Ext.refl ..) s wf (.bl _)⟩
  · cases e
theorem v_le : Ov2 K (rI0 fun i j => .bl (decide (i ≤ j))) leW := by
  intro c st x y vx vy w st' Q s wf rx ry e q
  unfold leW at e
  split at e
  · cases e
    exact ⟨_, _, rx.asI, ry.asI, q _ c (Ext.refl ..) s wf (.bl _)⟩
  · cases e
theorem v_gt : Ov2 K (rI0 fun i j => .bl (decide (j < i))) gtW := by
  intro c st x y vx vy w st' Q s wf rx ry e q
  unfold gtW at e
  split at e
  · cases e
    exact ⟨_, _, rx.asI, ry.asI, q _ c (Ext.refl ..) s wf (.bl _)⟩
  · cases e
theorem v_ge : Ov2 K (rI0 fun i j => .bl (decide (j ≤ i))) geW := by
  intro c st x y vx vy w st' Q s wf rx ry e q
  unfold geW at e
  split at e
  · cases e
    exact ⟨_, _, rx.asI, ry.asI, q _ c (Ext.refl ..) s wf (.bl _)⟩
  · cases e
theorem View.isNon {c : Cf} {w : W} {v : V} (h : View K c w v) : decide (v = V.non) = w.isNon := by
  cases h with
  | of r => cases r <;> rfl
  | lst => rfl
  | dct => rfl
  | dtt => rfl
theorem v_is : Ov2 K (fun x y H Q => (y = .non ∧ Q (.bl (decide (x = .non))) H) ∨ rIsB x y H Q) isW := by
  intro c st x y vx vy w st' Q s wf rx ry e q
  unfold isW at e
  split at e
  · cases e
    refine .inl ⟨ry.asN, ?_⟩
    rw [rx.isNon]
    exact q _ c (Ext.refl ..) s wf (.bl _)
  · cases e
    exact .inr ⟨_, _, rx.asB, ry.asB, q _ c (Ext.refl ..) s wf (.bl _)⟩
  · cases e
theorem v_isn : Ov2 K (fun x y H Q => (y = .non ∧ Q (.bl (!decide (x = .non))) H) ∨ rNotB x y H Q) isnW := by
  intro c st x y vx vy w st' Q s wf rx ry e q
  unfold isnW at e
  split at e
  · cases e
    refine .inl ⟨ry.asN, ?_⟩
    rw [rx.isNon]
    exact q _ c (Ext.refl ..) s wf (.bl _)
  · cases e
    exact .inr ⟨_, _, rx.asB, ry.asB, q _ c (Ext.refl ..) s wf (.bl _)⟩
  · cases e
end
end Cr
/-! Cr4: in, subscripts, slices, tests, displays. -/
namespace Cr
open PySem PySem.Spec PyProof.Rows L2

/-! ### dicts -/
section
variable {K : PySem.W.Frag} {H : Hp} {ρ : List Addr}
theorem getW_nil {κ : Type} [DecidableEq κ] {k : κ} : getW ([] : List (κ × W)) k = none := rfl
theorem getW_pos {κ : Type} [DecidableEq κ] {p : κ × W} {r : List (κ × W)} {k : κ} (e : p.1 = k) : getW (p :: r) k = some p.2 := by simp [getW, List.find?_cons, e]
theorem getW_neg {κ : Type} [DecidableEq κ] {p : κ × W} {r : List (κ × W)} {k : κ} (e : ¬ p.1 = k) : getW (p :: r) k = getW r k := by simp [getW, List.find?_cons, e]
theorem RepD.get (k : Key) : ∀ {ws : List (Key × W)} {vs : List (Key × V)}, RepD K H ρ ws vs → (∀ w, getW ws k = some w → ∃ v, valV vs k = some v ∧ Rep K H ρ w v) ∧ (getW ws k = none → valV vs k = none)
  | _, _, .nil => ⟨fun w e => (nomatch (show none = some w from e)), fun _ => rfl⟩
  | _, _, .cons (k := k0) (w := w0) (v := v0) q r => by
    by_cases e : k0 = k
    · rw [getW_pos (p := (k0, w0)) e, valV_pos (p := (k0, v0)) e]
      exact ⟨fun w h => ⟨_, rfl, by cases h; exact q⟩, fun h => nomatch h⟩
    · rw [getW_neg (p := (k0, w0)) e, valV_neg (p := (k0, v0)) e]
      exact RepD.get k r
theorem RepD.isSome (k : Key) {ws : List (Key × W)} {vs : List (Key × V)} (r : RepD K H ρ ws vs) : (valV vs k).isSome = (getW ws k).isSome := by
  obtain ⟨h1, h2⟩ := r.get k
  cases e : getW ws k with
  | none => rw [h2 e] <;> rfl
  | some w => obtain ⟨v, e2, _⟩ := h1 w e; rw [e2] <;> rfl
theorem RepD.length : ∀ {ws : List (Key × W)} {vs : List (Key × V)}, RepD K H ρ ws vs → ws.length = vs.length
  | _, _, .nil => rfl
  | _, _, .cons _ r => by simp [RepD.length r]
theorem RepD.any (k : Key) : ∀ {ws : List (Key × W)} {vs : List (Key × V)}, RepD K H ρ ws vs → (ws.any fun kv => decide (kv.1 = k)) = (vs.any fun kv => decide (kv.1 = k))
  | _, _, .nil => rfl
  | _, _, .cons _ r => by simp [RepD.any k r]
theorem RepD.map (k : Key) {w : W} {v : V} (q : Rep K H ρ w v) : ∀ {ws : List (Key × W)} {vs : List (Key × V)}, RepD K H ρ ws vs → RepD K H ρ (ws.map fun kv => if kv.1 = k then (kv.1, w) else kv) (vs.map fun kv => if kv.1 = k then (kv.1, v) else kv)
  | _, _, .nil => .nil
  | _, _, .cons (k := k0) p r => by
    rw [List.map_cons, List.map_cons]
    by_cases e : k0 = k
    · simp only [e, if_true]; exact .cons q (RepD.map k q r)
    · simp only [e, if_false]; exact .cons p (RepD.map k q r)
theorem RepD.append : ∀ {ws ws' : List (Key × W)} {vs vs' : List (Key × V)}, RepD K H ρ ws vs → RepD K H ρ ws' vs' → RepD K H ρ (ws ++ ws') (vs ++ vs')
  | _, _, _, _, .nil, s => s
  | _, _, _, _, .cons q r, s => .cons q (RepD.append r s)
theorem RepD.put (k : Key) {w : W} {v : V} (q : Rep K H ρ w v) {ws : List (Key × W)} {vs : List (Key × V)} (r : RepD K H ρ ws vs) : RepD K H ρ (putW ws k w) (putK vs k v) := by
  unfold putW putK
  rw [r.any k]
  split
  · exact r.map k q
  · exact r.append (.cons q .nil)
theorem putW_length (k : Key) (w : W) (ws : List (Key × W)) : (putW ws k w).length ≤ ws.length + 1 := by
  unfold putW
  split
  · rw [List.length_map]; omega
  · rw [List.length_append]; exact Nat.le_refl _
end

/-! ### in -/
section
variable {X : Cx}
def rInT (K : PySem.W.Frag) : R2 := fun x y H Q => ∃ d ds, Dp K H x d ∧ Dp K H y (.tuple ds) ∧ SeqAt.shaped d = true ∧ SeqAt.shaped (.tuple ds) = true ∧ Q (.bl (ds.any fun z => PyData.eqv z d)) H
def rNotInT (K : PySem.W.Frag) : R2 := fun x y H Q => ∃ d ds, Dp K H x d ∧ Dp K H y (.tuple ds) ∧ SeqAt.shaped d = true ∧ SeqAt.shaped (.tuple ds) = true ∧ Q (.bl (!ds.any fun z => PyData.eqv z d)) H
theorem op_inT (hu : X.A.units + 65 < cLine) : OpR X (compareOp .In) (rInT X.K) := by
  intro pins s σ H x y v u Q I rx ry h
  obtain ⟨d, ds, hd, he, sd, se, q⟩ := h
  obtain ⟨as, r1⟩ := Dp.reads I d x v hd rx
  obtain ⟨bs, r2⟩ := Dp.reads I (.tuple ds) y u he ry
  exact SeqAt.in_tuple_reads r2 r1 (SeqAt.canLay_of_shaped se) (SeqAt.canLay_of_shaped sd) (room_in_shaped sd hu) ⟨.bl _, H, I, rfl, q⟩
theorem op_notInT (hu : X.A.units + 65 < cLine) : OpR X (compareOp .NotIn) (rNotInT X.K) := by
  intro pins s σ H x y v u Q I rx ry h
  obtain ⟨d, ds, hd, he, sd, se, q⟩ := h
  obtain ⟨as, r1⟩ := Dp.reads I d x v hd rx
  obtain ⟨bs, r2⟩ := Dp.reads I (.tuple ds) y u he ry
  exact SeqAt.notIn_tuple_reads r2 r1 (SeqAt.canLay_of_shaped se) (SeqAt.canLay_of_shaped sd) (room_in_shaped sd hu) ⟨.bl _, H, I, rfl, q⟩
def rInDi (neg : Bool) : R2 := fun x y H Q => ∃ a o, y = .ref a ∧ DGet H a x o ∧ Q (.bl (if neg then !o.isSome else o.isSome)) H
theorem op_inDi (hu : X.A.units + 1 < cLine) : OpR X (compareOp .In) (rInDi false) := by
  intro pins s σ H x y v u Q I rx ry ⟨a, o, ey, g, q⟩
  subst ey
  cases ry
  exact d_in hu I g rx fun s' I' => ⟨.bl o.isSome, H, I', rfl, q⟩
theorem op_notInDi (hu : X.A.units + 1 < cLine) : OpR X (compareOp .NotIn) (rInDi true) := by
  intro pins s σ H x y v u Q I rx ry ⟨a, o, ey, g, q⟩
  subst ey
  cases ry
  exact d_notIn hu I g rx fun s' I' => ⟨.bl (!o.isSome), H, I', rfl, q⟩
abbrev rInAll (K : PySem.W.Frag) : R2 := fun x y H Q => rInT K x y H Q ∨ rInD K x y H Q ∨ rInDi false x y H Q ∨ (∃ (c : Nat) (z : Str), x = .str ⟨#[c]⟩ ∧ y = .str z ∧ Q (.bl (decide (c ∈ z.cps.toList))) H)
abbrev rNinAll (K : PySem.W.Frag) : R2 := fun x y H Q => rNotInT K x y H Q ∨ rNotInD K x y H Q ∨ rInDi true x y H Q ∨ (∃ (c : Nat) (z : Str), x = .str ⟨#[c]⟩ ∧ y = .str z ∧ Q (.bl (!decide (c ∈ z.cps.toList))) H)
theorem op_inAll (hu : X.A.units + 65 < cLine) : OpR X (compareOp .In) (rInAll X.K) := (op_inT hu).or ((op_inD hu).or ((op_inDi (by omega)).or op_in_sign))
theorem op_ninAll (hu : X.A.units + 65 < cLine) : OpR X (compareOp .NotIn) (rNinAll X.K) := (op_notInT hu).or ((op_notInD hu).or ((op_notInDi (by omega)).or op_notIn_sign))
end
theorem any_pyL (x : PyData) (ys : List W) : (W.pyL ys).any (fun z => PyData.eqv z x) = ys.any fun z => PyData.eqv z.py x := by
  rw [pyL_map, List.any_map]; rfl
theorem fit_tup {ys : List W} (f : ys.all (W.fit 59) = true) : W.fit 60 (.tup ys) = true := by simpa only [W.fit] using f
theorem fit_lst {ys : List W} (f : ys.all (W.fit 59) = true) : W.fit 60 (.lst ys) = true := by simpa only [W.fit] using f
mutual
theorem fit_succ : ∀ (n : Nat) (w : W), w.fit n = true → w.fit (n + 1) = true
  | n, .non, _ => by simp [W.fit]
  | n, .bl _, _ => by simp [W.fit]
  | n, .int _, _ => by simp [W.fit]
  | n, .str _, _ => by simp [W.fit]
  | 0, .tup _, h => by simp [W.fit] at h
  | 0, .lst _, h => by simp [W.fit] at h
  | n + 1, .tup xs, h => by
    simp only [W.fit] at h ⊢
    exact fit_succL n xs h
  | n + 1, .lst xs, h => by
    simp only [W.fit] at h ⊢
    exact fit_succL n xs h
  | n, .dct _, h => by cases n <;> simp [W.fit] at h
  | n, .dtt _, h => by cases n <;> simp [W.fit] at h
  | n, .ref _, h => by cases n <;> simp [W.fit] at h
  | n, .scr _, h => by cases n <;> simp [W.fit] at h
theorem fit_succL : ∀ (n : Nat) (ws : List W), ws.all (W.fit n) = true → ws.all (W.fit (n + 1)) = true
  | _, [], _ => rfl
  | n, w :: ws, h => by
    rw [List.all_cons, Bool.and_eq_true] at h ⊢
    exact ⟨fit_succ n w h.1, fit_succL n ws h.2⟩
end
theorem one_sign {x : Str} {c : Nat} (h : x.cps.toList = [c]) : x = ⟨#[c]⟩ := by
  obtain ⟨a⟩ := x
  obtain ⟨l⟩ := a
  simp only at h
  subst h
  rfl
section
variable {K : PySem.W.Frag}
theorem v_inGen (neg : Bool) {c : Cf} {st : Store} {x y : W} {vx vy : V} {b : Bool} {Q : VK} (s : StR K c st) (wf : Wf c) (rx : View K c x vx) (ry : View K c y vy) (e : inB x y = some b)
    (q : ∀ v c', Ext true c c' st st → StR K c' st → Wf c' → RepC K c' (.bl (if neg then !b else b)) v → Q v c'.H) :
    (∃ d ds, Dp K c.H vx d ∧ Dp K c.H vy (.tuple ds) ∧ SeqAt.shaped d = true ∧ SeqAt.shaped (.tuple ds) = true ∧ Q (.bl (if neg then !(ds.any fun z => PyData.eqv z d) else ds.any fun z => PyData.eqv z d)) c.H) ∨
    (∃ d ds, Dp K c.H vx d ∧ Dp K c.H vy (.list ds) ∧ SeqAt.shaped d = true ∧ SeqAt.shaped (.list ds) = true ∧ Q (.bl (if neg then !(ds.any fun z => PyData.eqv z d) else ds.any fun z => PyData.eqv z d)) c.H) ∨
    rInDi neg vx vy c.H Q ∨ ∃ (k : Nat) (z : Str), vx = .str ⟨#[k]⟩ ∧ vy = .str z ∧ Q (.bl (if neg then !decide (k ∈ z.cps.toList) else decide (k ∈ z.cps.toList))) c.H := by
  have fin : Q (.bl (if neg then !b else b)) c.H := q _ c (Ext.refl ..) s wf (.bl _)
  unfold inB at e
  split at e
  · split at e <;> cases e
    rename_i h
    rw [Bool.and_eq_true] at h
    obtain ⟨d1, s1⟩ := rx.dp (fit_succ _ _ h.1)
    obtain ⟨d2, s2⟩ := ry.dp (fit_tup h.2)
    unfold W.py at d2 s2
    exact .inl ⟨_, _, d1, d2, s1, s2, by rw [any_pyL]; exact fin⟩
  · split at e <;> cases e
    rename_i h
    rw [Bool.and_eq_true] at h
    obtain ⟨d1, s1⟩ := rx.dp (fit_succ _ _ h.1)
    obtain ⟨d2, s2⟩ := ry.dp (fit_lst h.2)
    unfold W.py at d2 s2
    exact .inr (.inl ⟨_, _, d1, d2, s1, s2, by rw [any_pyL]; exact fin⟩)
  · obtain ⟨a, vs, rfl, h1, r, z⟩ := ry.asD
    refine .inr (.inr (.inl ?_))
    cases x with
    | int i => cases e; exact ⟨a, _, rfl, .inl ⟨vs, .inl i, h1, rx.asI, rfl⟩, by rw [r.isSome]; exact fin⟩
    | str i => cases e; exact ⟨a, _, rfl, .inl ⟨vs, .inr i, h1, rx.asS.1, rfl⟩, by rw [r.isSome]; exact fin⟩
    | _ => cases e
  · split at e <;> cases e
    rename_i h
    obtain ⟨h1, h2, h3⟩ := rx.asS
    rw [one_sign h] at h1
    exact .inr (.inr (.inr ⟨_, _, h1, ry.asS.1, fin⟩))
  · cases e
theorem v_in : Ov2 K (rInAll K) inW := by
  intro c st x y vx vy w st' Q s wf rx ry e q
  unfold inW at e
  split at e <;> cases e
  rename_i h
  exact v_inGen false s wf rx ry h q
theorem v_nin : Ov2 K (rNinAll K) ninW := by
  intro c st x y vx vy w st' Q s wf rx ry e q
  unfold ninW at e
  split at e <;> cases e
  rename_i h
  exact v_inGen true s wf rx ry h q
end

/-! ### comparisons as values, as tests -/
def tst_ (f : Ef) : Tf := fun env st => (f env st).bind fun w st1 => match w with
  | .bl b => .ok b st1
  | _ => .no
section
variable {X : Cx} {m : Bool} {a b c : Expr} {fa fb fc : Ef} {ta tb : Tf} {pos : Pos} {op op' : CmpOp} {r r' : R2} {g g' : W → W → Store → R W}
theorem e_cmp (ho : OpR X (compareOp op) r) (hg : Ov2 X.K r g) (ha : OV m m X a fa) (hb : OV m true X b fb) (hm : behindInMarks op b = false := by rfl) : EV m X (.Compare a [op] [b] pos) (bin g fa fb) :=
  ⟨(pe_cmpR ho ha.pe hb.pe hm).imp (ov2 hg)⟩
theorem tst_imp {K : PySem.W.Frag} {f : Ef} {t : TE} (i : ∀ σ H Q, tEf K m f σ H Q → t σ H Q) : ∀ σ H Q, tTf K m (tst_ f) σ H Q → tTest t σ H Q := by
  rintro σ H Q ⟨ow, ρ, env, st, S, b, st', e, q⟩
  obtain ⟨w, st1, e1, e⟩ := R.bind_ok e
  refine i σ H _ ⟨ow, ρ, env, st, S, w, st1, e1, fun v c' x s wf r => ?_⟩
  split at e
  · cases e
    cases r
    exact ⟨_, rfl, q c' x s wf⟩
  · cases e
theorem t_cmp (ho : OpR X (compareOp op) r) (hg : Ov2 X.K r g) (ha : OV m m X a fa) (hb : OV m true X b fb) (hm : behindInMarks op b = false := by rfl) : TV m X (.Compare a [op] [b] pos) (tst_ (bin g fa fb)) :=
  ⟨(pt_cmpR ho ha.pe hb.pe hm).imp (tst_imp (ov2 hg))⟩
/-- a op b op' c -/
def chn_ (g g' : W → W → Store → R W) (fa fb fc : Ef) : Ef := fun env st => (fa env st).bind fun x st1 => (fb env st1).bind fun y st2 => (g x y st2).bind fun k st3 => match k with
  | .bl true => (fc env st3).bind fun z st4 => g' y z st4
  | .bl false => .ok (.bl false) st3
  | _ => .no
theorem chn_imp {K : PySem.W.Frag} (hg : Ov2 K r g) (hg' : Ov2 K r' g') : ∀ σ H Q, tEf K m (chn_ g g' fa fb fc) σ H Q → tChain r r' (tOf K m m fa) (tOf K m m fb) (tOf K m true fc) σ H Q := by
  rintro σ H Q ⟨ow, ρ, env, st, S, w, st', e, q⟩
  obtain ⟨x, st1, e1, e⟩ := R.bind_ok e
  obtain ⟨y, st2, e2, e⟩ := R.bind_ok e
  obtain ⟨k, st3, e3, e⟩ := R.bind_ok e
  refine ⟨ow, ρ, env, st, S, x, st1, e1, fun vx c1 x1 s1 w1 r1 k1 => ?_⟩
  refine ⟨c1.ow, c1.ρ, env, st1, S.ext x1 s1 w1, y, st2, e2, fun vy c2 x2 s2 w2 r2 k2 => ?_⟩
  refine hg c2 st2 x y vx vy k st3 _ s2 w2 (k1 _ _ x2) r2 e3 fun v c3 x3 s3 w3 r3 => ?_
  split at e
  · obtain ⟨z, st4, e4, e⟩ := R.bind_ok e
    cases r3
    refine ⟨true, rfl, ?_⟩
    rw [if_pos rfl]
    refine ⟨c3.ow, c3.ρ, env, st3, (S.ext x1 s1 w1).ext (x2.trans x3.any) s3 w3, z, st4, e4, fun vz c4 x4 s4 w4 r4 _ => ?_⟩
    exact hg' c4 st4 y z vy vz w st' Q s4 w4 (k2 _ _ (x3.any.trans x4)) r4 e fun v' c' x5 s5 w5 r5 => q v' c' ((((x1.trans x2).trans x3.any).trans x4).trans x5.any) s5 w5 r5
  · cases e
    cases r3
    refine ⟨false, rfl, ?_⟩
    rw [if_neg Bool.false_ne_true]
    exact q _ c3 ((x1.trans x2).trans x3.any) s3 w3 (.bl _)
  · cases e
theorem e_chn (ho : OpR X (compareOp op) r) (hg : Ov2 X.K r g) (ho' : OpR X (compareOp op') r') (hg' : Ov2 X.K r' g') (ha : OV m m X a fa) (hb : OV m m X b fb) (hc : OV m true X c fc)
    (hm : lastMarks [op, op'] [b, c] = false := by with_unfolding_all rfl) : EV m X (.Compare a [op, op'] [b, c] pos) (chn_ g g' fa fb fc) := ⟨(pe_chain ho ho' ha.pe hb.pe hc.pe hm).imp (chn_imp hg hg')⟩
theorem t_chn (ho : OpR X (compareOp op) r) (hg : Ov2 X.K r g) (ho' : OpR X (compareOp op') r') (hg' : Ov2 X.K r' g') (ha : OV m m X a fa) (hb : OV m m X b fb) (hc : OV m true X c fc)
    (hm : lastMarks [op, op'] [b, c] = false := by with_unfolding_all rfl) : TV m X (.Compare a [op, op'] [b, c] pos) (tst_ (chn_ g g' fa fb fc)) := ⟨(pt_chain ho ho' ha.pe hb.pe hc.pe hm).imp (tst_imp (chn_imp hg hg'))⟩
/-- a value that is True or False, as a test -/
theorem t_val {e : Expr} {f : Ef} (h : EV m X e f) (he : ∀ whole, isTrue e X.env whole = (do let v ← whole; standAt e.pos; holding [v] (truthy v)) := by intro _; rfl) : TV m X e (tst_ f) :=
  ⟨(pt_val h.pe he).imp (tst_imp fun _ _ _ q => q)⟩

/-! ### and, or, not -/
structure WV (m : Bool) (X : Cx) (e : Expr) (f : Tf) : Prop where
  pw : PW X e (tTf X.K m f)
theorem PW.imp' {X : Cx} {e : Expr} {t t' : TT} (h : PW X e t) (i : ∀ σ H Q, t' σ H Q → t σ H Q) : PW X e t' := ⟨fun wh pins s σ H Q I q => h.run wh pins s σ H Q I (i σ H Q q)⟩
def and_ (fa fb : Tf) : Tf := fun env st => (fa env st).bind fun b st1 => if b = true then fb env st1 else .ok false st1
def or_ (fa fb : Tf) : Tf := fun env st => (fa env st).bind fun b st1 => if b = true then .ok true st1 else fb env st1
def not_ (fa : Tf) : Tf := fun env st => (fa env st).bind fun b st1 => .ok (!b) st1
variable {rest : List Expr}
theorem w_and1 (ha : TV m X a ta) : WV m X (.BoolOp .And [a] pos) ta := ⟨pw_and1 ha.pt⟩
theorem w_or1 (ha : TV m X a ta) : WV m X (.BoolOp .Or [a] pos) ta := ⟨pw_or1 ha.pt⟩
theorem w_and (ha : TV m X a ta) (hb : WV m X (.BoolOp .And (b :: rest) pos) tb) : WV m X (.BoolOp .And (a :: b :: rest) pos) (and_ ta tb) := by
  refine ⟨PW.imp' (pw_and ha.pt hb.pw) ?_⟩
  rintro σ H Q ⟨ow, ρ, env, st, S, k, st', e, q⟩
  obtain ⟨x, st1, e1, e⟩ := R.bind_ok e
  refine ⟨ow, ρ, env, st, S, x, st1, e1, fun c1 x1 s1 w1 => ?_⟩
  cases x with
  | true =>
    rw [if_pos rfl] at e ⊢
    exact ⟨c1.ow, c1.ρ, env, st1, S.ext x1 s1 w1, k, st', e, fun c2 x2 s2 w2 => q c2 (x1.trans x2) s2 w2⟩
  | false =>
    rw [if_neg Bool.false_ne_true] at e ⊢
    cases e
    exact q c1 x1 s1 w1
theorem w_or (ha : TV m X a ta) (hb : WV m X (.BoolOp .Or (b :: rest) pos) tb) : WV m X (.BoolOp .Or (a :: b :: rest) pos) (or_ ta tb) := by
  refine ⟨PW.imp' (pw_or ha.pt hb.pw) ?_⟩
  rintro σ H Q ⟨ow, ρ, env, st, S, k, st', e, q⟩
  obtain ⟨x, st1, e1, e⟩ := R.bind_ok e
  refine ⟨ow, ρ, env, st, S, x, st1, e1, fun c1 x1 s1 w1 => ?_⟩
  cases x with
  | true =>
    rw [if_pos rfl] at e ⊢
    cases e
    exact q c1 x1 s1 w1
  | false =>
    rw [if_neg Bool.false_ne_true] at e ⊢
    exact ⟨c1.ow, c1.ρ, env, st1, S.ext x1 s1 w1, k, st', e, fun c2 x2 s2 w2 => q c2 (x1.trans x2) s2 w2⟩
theorem t_w {e : Expr} {f : Tf} (h : WV m X e f) : TV m X e f := ⟨h.pw.pt⟩
theorem t_not (ha : TV m X a ta) : TV m X (.UnaryOp .Not a pos) (not_ ta) := by
  refine ⟨(pt_not ha.pt).imp ?_⟩
  rintro σ H Q ⟨ow, ρ, env, st, S, k, st', e, q⟩
  obtain ⟨x, st1, e1, e⟩ := R.bind_ok e
  cases e
  exact ⟨ow, ρ, env, st, S, x, _, e1, fun c1 x1 s1 w1 => q c1 x1 s1 w1⟩
/-- as values: all but the last True or False -/
def andV_ (fa fb : Ef) : Ef := fun env st => (fa env st).bind fun x st1 => match x with
  | .bl true => fb env st1
  | .bl false => .ok (.bl false) st1
  | _ => .no
def orV_ (fa fb : Ef) : Ef := fun env st => (fa env st).bind fun x st1 => match x with
  | .bl true => .ok (.bl true) st1
  | .bl false => fb env st1
  | _ => .no
def notV_ (fa : Ef) : Ef := fun env st => (fa env st).bind fun x st1 => match x with
  | .bl b => .ok (.bl (!b)) st1
  | _ => .no
theorem e_one {op : BoolOp} (h : EV m X a fa) : EV m X (.BoolOp op [a] pos) fa := ⟨pe_one h.pe⟩
theorem e_and (ha : EV m X a fa) (hb : EV m X (.BoolOp .And (b :: rest) pos) fb) : EV m X (.BoolOp .And (a :: b :: rest) pos) (andV_ fa fb) := by
  refine ⟨(pe_and ha.pe hb.pe).imp ?_⟩
  rintro σ H Q ⟨ow, ρ, env, st, S, w, st', e, q⟩
  obtain ⟨x, st1, e1, e⟩ := R.bind_ok e
  refine ⟨ow, ρ, env, st, S, x, st1, e1, fun vx c1 x1 s1 w1 r1 => ?_⟩
  split at e
  · cases r1
    refine ⟨true, rfl, ?_⟩
    rw [if_pos rfl]
    exact ⟨c1.ow, c1.ρ, env, st1, S.ext x1 s1 w1, w, st', e, fun v c2 x2 s2 w2 r2 => q v c2 (x1.trans x2) s2 w2 r2⟩
  · cases e
    cases r1
    refine ⟨false, rfl, ?_⟩
    rw [if_neg Bool.false_ne_true]
    exact q _ c1 x1 s1 w1 (.bl _)
  · cases e
theorem e_or (ha : EV m X a fa) (hb : EV m X (.BoolOp .Or (b :: rest) pos) fb) : EV m X (.BoolOp .Or (a :: b :: rest) pos) (orV_ fa fb) := by
  refine ⟨(pe_or ha.pe hb.pe).imp ?_⟩
  rintro σ H Q ⟨ow, ρ, env, st, S, w, st', e, q⟩
  obtain ⟨x, st1, e1, e⟩ := R.bind_ok e
  refine ⟨ow, ρ, env, st, S, x, st1, e1, fun vx c1 x1 s1 w1 r1 => ?_⟩
  split at e
  · cases e
    cases r1
    refine ⟨true, rfl, ?_⟩
    rw [if_pos rfl]
    exact q _ c1 x1 s1 w1 (.bl _)
  · cases r1
    refine ⟨false, rfl, ?_⟩
    rw [if_neg Bool.false_ne_true]
    exact ⟨c1.ow, c1.ρ, env, st1, S.ext x1 s1 w1, w, st', e, fun v c2 x2 s2 w2 r2 => q v c2 (x1.trans x2) s2 w2 r2⟩
  · cases e
theorem e_not (ha : EV m X a fa) : EV m X (.UnaryOp .Not a pos) (notV_ fa) := by
  refine ⟨(pe_not ha.pe).imp ?_⟩
  rintro σ H Q ⟨ow, ρ, env, st, S, w, st', e, q⟩
  obtain ⟨x, st1, e1, e⟩ := R.bind_ok e
  refine ⟨ow, ρ, env, st, S, x, st1, e1, fun vx c1 x1 s1 w1 r1 => ?_⟩
  split at e
  · cases e
    cases r1
    exact ⟨_, rfl, q _ c1 x1 s1 w1 (.bl _)⟩
  · cases e
/-- a if t else b -/
def ife_ (t : Tf) (fa fb : Ef) : Ef := fun env st => (t env st).bind fun k st1 => if k = true then fa env st1 else fb env st1
theorem e_ife {t : Expr} {ft : Tf} (ht : TV m X t ft) (ha : EV m X a fa) (hb : EV m X b fb) : EV m X (.IfExp t a b pos) (ife_ ft fa fb) := by
  refine ⟨(pe_ifExp ht.pt ha.pe hb.pe).imp ?_⟩
  rintro σ H Q ⟨ow, ρ, env, st, S, w, st', e, q⟩
  obtain ⟨x, st1, e1, e⟩ := R.bind_ok e
  refine ⟨ow, ρ, env, st, S, x, st1, e1, fun c1 x1 s1 w1 => ?_⟩
  cases x with
  | true =>
    rw [if_pos rfl] at e ⊢
    exact ⟨c1.ow, c1.ρ, env, st1, S.ext x1 s1 w1, w, st', e, fun v c2 x2 s2 w2 r2 => q v c2 (x1.trans x2) s2 w2 r2⟩
  | false =>
    rw [if_neg Bool.false_ne_true] at e ⊢
    exact ⟨c1.ow, c1.ρ, env, st1, S.ext x1 s1 w1, w, st', e, fun v c2 x2 s2 w2 r2 => q v c2 (x1.trans x2) s2 w2 r2⟩
end
end Cr
/-! Cr5: subscripts, slices, displays, calls of what is built in. -/
namespace Cr
open PySem PySem.Spec PyProof.Rows L2

/-! ### subscripts -/
def ixW : W → W → Store → R W
  | .tup xs, .int i, st => match atI xs i with
    | some w => .ok w st
    | none => .no
  | .lst xs, .int i, st => match atI xs i with
    | some w => .ok w st
    | none => .no
  | .str x, .int i, st => match atI x.cps.toList i with
    | some c => .ok (.str ⟨#[c]⟩) st
    | none => .no
  | .scr ns, .int i, st => match atI ns i with
    | some n => .ok (.int n) st
    | none => .no
  | .dct kvs, k, st => match k.key with
    | some k => match getW kvs k with
      | some w => .ok w st
      | none => .no
    | none => .no
  | .ref n, .str f, st => match st[n]? with
    | some ob => match ob.cls, ob.fs.lookup f with
      | none, some (.w w) => .ok w st
      | _, _ => .no
    | none => .no
  | _, _, _ => .no
section
variable {K : PySem.W.Frag}
theorem RepL.atI {H : Hp} {ρ : List Addr} {ws : List W} {vs : List V} {i : Int} {w : W} (r : RepL K H ρ ws vs) (h : atI ws i = some w) : ∃ v, L2.atI vs i = some v ∧ Rep K H ρ w v := by
  have hl := r.length
  unfold L2.atI at h ⊢
  rw [← hl]
  cases e : ixN ws.length i with
  | none => rw [e] at h; cases h
  | some j =>
    rw [e] at h
    exact r.get h
theorem FldR.look {c : Cf} {n : Nat} {f : Str} {o : O} : ∀ {fs : List (Str × O)} {vs : List (Key × V)}, FldR K c n fs vs → fs.lookup f = some o → ∃ v, valV vs (.inr f) = some v ∧ Hd K c (.fld n f) o v
  | _, _, .nil, e => by cases e
  | _, _, .cons (f := g) (v := v0) (vs := vs) h r, e => by
    rw [List.lookup_cons] at e
    by_cases q : f = g
    · subst q
      have z : (f == f) = true := by simp
      rw [z] at e
      cases e
      exact ⟨v0, valV_pos (p := ((.inr f : Key), v0)) rfl, h⟩
    · have z : (f == g) = false := by simpa using q
      rw [z] at e
      obtain ⟨v, h1, h2⟩ := FldR.look r e
      exact ⟨v, by rw [valV_neg (p := ((.inr g : Key), v0)) (fun z => q (Sum.inr.inj z).symm)]; exact h1, h2⟩
theorem strOk_one {x : Str} {c : Nat} (h : PyData.strOk x = true) (m : c ∈ x.cps.toList) : PyData.strOk ⟨#[c]⟩ = true := by
  unfold PyData.strOk at *
  rw [Array.all_eq_true_iff_forall_mem] at h
  have := h c (by simpa using m)
  simpa using this
theorem atI_mem {α : Type} {xs : List α} {i : Int} {a : α} (h : atI xs i = some a) : a ∈ xs := by
  obtain ⟨j, _, h2, _⟩ := atI_get h
  exact List.mem_of_getElem? h2
def rIxDi : R2 := fun x y H Q => ∃ a v, x = .ref a ∧ DGet H a y (some v) ∧ Q v H
theorem ix_dict {X : Cx} (hu : X.A.units + 1 < cLine) : IxR X rIxDi := by
  intro value slice pins s σ H x y v u Q I rx ry h hs
  obtain ⟨a, z, rfl, g, q⟩ := h
  cases rx
  exact tail_any (dict_typeIs I g) PySem.F.slot_dict_getitem.lookup (d_getItem hu I g ry fun w' s3 I3 rw' => ⟨z, H, I3, rw', q⟩) hs
abbrev rIxAll (K : PySem.W.Frag) : R2 := fun x y H Q => rIxL K x y H Q ∨ rIxT K x y H Q ∨ rIxS x y H Q ∨ rIxDi x y H Q
theorem ix_all {X : Cx} (hu : X.A.units + 1 < cLine) : IxR X (rIxAll X.K) := ix_list.or (ix_tup.or (ix_str.or (ix_dict hu)))
theorem View.key {c : Cf} {y : W} {vy : V} {k : Key} (r : View K c y vy) (h : y.key = some k) : vy = kV k := by
  cases y with
  | int i => cases h; exact r.asI
  | str x => cases h; exact r.asS.1
  | _ => cases h
theorem v_ix : Ov2 K (rIxAll K) ixW := by
  intro c st x y vx vy w st' Q s wf rx ry e q
  unfold ixW at e
  split at e
  · split at e <;> cases e
    rename_i h
    obtain ⟨a, vs, rfl, h1, r, _, _⟩ := rx.asT
    obtain ⟨v, h2, h3⟩ := r.atI h
    exact .inr (.inl ⟨a, vs, _, v, rfl, ry.asI, h1, h2, q _ c (Ext.refl ..) s wf h3⟩)
  · split at e <;> cases e
    rename_i h
    obtain ⟨a, vs, rfl, h1, r, _⟩ := rx.asL
    obtain ⟨v, h2, h3⟩ := r.atI h
    exact .inl ⟨a, vs, _, v, rfl, ry.asI, SqL.of h1, h2, q _ c (Ext.refl ..) s wf h3⟩
  · split at e <;> cases e
    rename_i h
    obtain ⟨rfl, h1, h2⟩ := rx.asS
    exact .inr (.inr (.inl ⟨_, _, _, rfl, ry.asI, by rw [lim_eq]; exact h2, h, q _ c (Ext.refl ..) s wf (.str _ (strOk_one h1 (atI_mem h)) (by show 1 ≤ LIM; decide))⟩))
  · split at e <;> cases e
    rename_i h
    cases rx with
    | of r => cases r with
      | scr hs _ =>
        refine .inl ⟨_, _, _, .int _, rfl, ry.asI, sqL_mono fz_sub hs, ?_, q _ c (Ext.refl ..) s wf (.int _)⟩
        unfold L2.atI at h ⊢
        rw [List.length_map]
        revert h
        cases ixN _ _ with
        | none => intro h; cases h
        | some j =>
          intro h
          show (List.map V.int _)[j]? = _
          rw [List.getElem?_map]
          exact congrArg (Option.map V.int) h
  · split at e
    · split at e <;> cases e
      rename_i k hk w hw
      obtain ⟨a, vs, rfl, h1, r, _⟩ := rx.asD
      obtain ⟨v, h2, h3⟩ := (r.get k).1 _ hw
      have ey : vy = kV k := ry.key hk
      exact .inr (.inr (.inr ⟨a, v, rfl, .inl ⟨vs, k, h1, ey, h2.symm⟩, q _ c (Ext.refl ..) s wf h3⟩))
    · cases e
  · split at e
    · rename_i ob hob
      split at e <;> cases e
      rename_i hc hf
      obtain ⟨a, rfl, ha⟩ := rx.asR
      obtain ⟨a', h1, h2⟩ := s.at_ _ _ hob
      rw [ha] at h1
      cases h1
      cases h2 with
      | dict e1 e2 e3 r =>
        obtain ⟨v, h4, h5⟩ := r.look hf
        obtain ⟨pk, _⟩ := h5
        cases pk with
        | w r5 => exact .inr (.inr (.inr ⟨a, v, rfl, .inl ⟨_, (.inr _), .inl e3, ry.asS.1, h4.symm⟩, q _ c (Ext.refl ..) s wf r5⟩))
    · cases e
  · cases e
end
section
variable {X : Cx} {m m2 : Bool} {a b : Expr} {fa fb : Ef} {pos : Pos}
theorem e_ix (hu : X.A.units + 1 < cLine) (ha : OV m m X a fa) (hb : OV m true X b fb) (hs : PlainIx b := by intro _ _; rfl) : EV m X (.Subscript a b pos) (bin ixW fa fb) :=
  ⟨(pe_ix (ix_all hu) ha.pe hb.pe hs).imp (ov2 v_ix)⟩
/-- a shared dict's own thing, looked at: it stays while nothing is written -/
def fld_ (f : Str) (fa : Ef) : Ef := fun env st => (fa env st).bind fun x st1 => match x with
  | .ref n => match st1[n]? with
    | some ob => match ob.cls, ob.fs.lookup f with
      | none, some (.oll _) => .no
      | none, some o => .ok o.view st1
      | _, _ => .no
    | none => .no
  | _ => .no
theorem StR.dict {K : PySem.W.Frag} {c : Cf} {st : Store} {n : Nat} {ob : Ob} {a : Addr} {f : Str} {o : O} (s : StR K c st) (h : st[n]? = some ob) (hc : ob.cls = none) (hf : ob.fs.lookup f = some o) (ha : c.ρ[n]? = some a) :
    ∃ vs v, c.H a = some (.dK vs) ∧ valV vs (.inr f) = some v ∧ Hd K c (.fld n f) o v := by
  obtain ⟨a', h1, h2⟩ := s.at_ _ _ h
  rw [ha] at h1
  cases h1
  cases h2 with
  | dict e1 e2 e3 r =>
    obtain ⟨v, h4, h5⟩ := r.look hf
    exact ⟨_, v, e3, h4, h5⟩
theorem Hd.still {K : PySem.W.Frag} {c c1 : Cf} {st st1 : Store} {p : Place} {o : O} {v : V} (h : Hd K c p o v) (wf : Wf c) (x : Ext true c c1 st st1) : Hd K c1 p o v := by
  refine h.keep x.frz x.loc fun a e => ?_
  obtain ⟨u, hu⟩ := wf a _ e
  obtain ⟨y, z⟩ := (x.still rfl).2 a u hu
  exact ⟨y.trans e, z.trans hu.symm⟩
theorem o_fld (hu : X.A.units + 1 < cLine) {f : Str} {j : Nat} {kpos : Pos} (ha : EV m X a fa) : OV m true X (.Subscript a (.Constant (.str f) j kpos) pos) (fld_ f fa) := by
  refine ⟨(pe_ix (ix_dict hu) ha.pe (pe_str (x := f) (j := j) (pos := kpos)) (by intro _ _; rfl)).imp ?_⟩
  rintro σ H Q ⟨ow, ρ, env, st, S, w, st', e, q⟩
  obtain ⟨x, st1, e1, e⟩ := R.bind_ok e
  refine ⟨ow, ρ, env, st, S, x, st1, e1, fun vx c1 x1 s1 w1 r1 => ?_⟩
  split at e
  · split at e
    · rename_i n ob hob
      cases r1 with
      | ref hn =>
        rename_i a0
        split at e
        · cases e
        · rename_i o hno hc hf
          cases e
          obtain ⟨vs, v, h1, h2, h3⟩ := s1.dict hob hc hf hn
          exact ⟨a0, v, rfl, .inl ⟨vs, _, .inl h1, rfl, h2.symm⟩, q v c1 x1 s1 w1 h3.pk.view fun c2 st2 y => (h3.still w1 y).pk.view⟩
        · cases e
    · cases e
  · cases e
end

/-! ### slices -/
def cutW {α : Type} (xs : List α) (lo hi : Option Int) : List α := (xs.drop (HT.sIx xs.length 0 lo)).take (HT.sIx xs.length xs.length hi - HT.sIx xs.length 0 lo)
abbrev Qf := Env → Store → R (Option Int)
def noPart : Qf := fun _ st => .ok none st
def part (f : Ef) : Qf := fun env st => (f env st).bind fun x st1 => match x with
  | .int i => .ok (some i) st1
  | _ => .no
def slW : W → Option Int → Option Int → Store → R W
  | .tup xs, lo, hi, st => .ok (.tup (cutW xs lo hi)) st
  | .lst xs, lo, hi, st => .ok (.lst (cutW xs lo hi)) st
  | .str x, lo, hi, st => .ok (.str (cutS x lo hi)) st
  | _, _, _, _ => .no
def sl_ (fa : Ef) (lo hi : Qf) : Ef := fun env st => (fa env st).bind fun x st1 => (lo env st1).bind fun l st2 => (hi env st2).bind fun h st3 => slW x l h st3
def tQf (K : PySem.W.Frag) (m : Bool) (f : Qf) : TO := fun σ H Q => ∃ ow ρ env st, Sm K ⟨ow, H, ρ⟩ env st σ ∧ ∃ w st', f env st = .ok w st' ∧
  ∀ c', Ext m ⟨ow, H, ρ⟩ c' st st' → StR K c' st' → Wf c' → Q w c'.H
structure QV (m : Bool) (X : Cx) (e : Option Expr) (f : Qf) : Prop where
  po : PO X e (tQf X.K m f)
theorem PO.imp' {X : Cx} {e : Option Expr} {t t' : TO} (h : PO X e t) (i : ∀ σ H Q, t' σ H Q → t σ H Q) : PO X e t' := ⟨fun pins s σ H Q I q => h.run pins s σ H Q I (i σ H Q q)⟩
section
variable {X : Cx} {m m2 : Bool} {a b : Expr} {fa fb : Ef} {pos : Pos}
theorem q_none : QV m X none noPart := by
  refine ⟨PO.imp' po_none ?_⟩
  rintro σ H Q ⟨ow, ρ, env, st, S, w, st', e, q⟩
  cases e
  exact q ⟨ow, H, ρ⟩ (Ext.refl ..) S.s S.wf
theorem q_some (ha : EV m X a fa) : QV m X (some a) (part fa) := by
  refine ⟨PO.imp' (po_some ha.pe) ?_⟩
  rintro σ H Q ⟨ow, ρ, env, st, S, w, st', e, q⟩
  obtain ⟨x, st1, e1, e⟩ := R.bind_ok e
  refine ⟨ow, ρ, env, st, S, x, st1, e1, fun vx c1 x1 s1 w1 r1 => ?_⟩
  split at e
  · cases e
    cases r1
    exact ⟨_, rfl, q c1 x1 s1 w1⟩
  · cases e
theorem RepL.cut {K : PySem.W.Frag} {H : Hp} {ρ : List Addr} {ws : List W} {vs : List V} {lo hi : Option Int} (r : RepL K H ρ ws vs) : RepL K H ρ (cutW ws lo hi) (cutV vs lo hi) := by
  unfold cutW cutV
  rw [r.length]
  exact (r.drop _).take _
theorem cutW_length {α : Type} (xs : List α) (lo hi : Option Int) : (cutW xs lo hi).length ≤ xs.length := by
  unfold cutW
  rw [List.length_take, List.length_drop]
  omega
theorem strOk_of_sub {x y : Str} (h : PyData.strOk x = true) (m : ∀ c, c ∈ y.cps.toList → c ∈ x.cps.toList) : PyData.strOk y = true := by
  unfold PyData.strOk at *
  rw [Array.all_eq_true_iff_forall_mem] at h ⊢
  intro c hc
  exact h c (by simpa using m c (by simpa using hc))
theorem cutS_ok {x : Str} {lo hi : Option Int} (h : PyData.strOk x = true) : PyData.strOk (cutS x lo hi) = true :=
  strOk_of_sub h fun c hc => by
    unfold cutS at hc
    simp only [] at hc
    exact List.mem_of_mem_drop (List.mem_of_mem_take hc)
theorem cutS_length (x : Str) (lo hi : Option Int) : (cutS x lo hi).length ≤ x.length := by
  unfold cutS
  show (Array.size _) ≤ x.cps.size
  rw [List.size_toArray, List.length_take, List.length_drop, Array.length_toList]
  omega
abbrev rSlAll (K : PySem.W.Frag) : V → Option Int → Option Int → Hp → VK → Prop := fun x lo hi H Q => rSlA K x lo hi H Q ∨ rSlL K x lo hi H Q ∨ rSlS x lo hi H Q
theorem cut_whole {α : Type} {xs : List α} {lo hi : Option Int} (h : HT.sIx xs.length 0 lo = 0 ∧ HT.sIx xs.length xs.length hi = xs.length) : cutW xs lo hi = xs := by
  unfold cutW
  rw [h.1, h.2, List.drop_zero, Nat.sub_zero, List.take_length]
theorem e_sl {lo hi : Option Expr} {fl fh : Qf} {p2 : Pos} (ha : OV m m X a fa) (hl : QV m X lo fl) (hh : QV m X hi fh) : EV m X (.Subscript a (.Slice lo hi none p2) pos) (sl_ fa fl fh) := by
  refine ⟨(pe_slice (sl_tupA.or (sl_list.or sl_str)) ha.pe hl.po hh.po).imp ?_⟩
  rintro σ H Q ⟨ow, ρ, env, st, S, w, st', e, q⟩
  obtain ⟨x, st1, e1, e⟩ := R.bind_ok e
  obtain ⟨l, st2, e2, e⟩ := R.bind_ok e
  obtain ⟨h, st3, e3, e⟩ := R.bind_ok e
  refine ⟨ow, ρ, env, st, S, x, st1, e1, fun vx c1 x1 s1 w1 r1 k1 => ?_⟩
  refine ⟨c1.ow, c1.ρ, env, st1, S.ext x1 s1 w1, l, st2, e2, fun c2 x2 s2 w2 => ?_⟩
  refine ⟨c2.ow, c2.ρ, env, st2, (S.ext x1 s1 w1).ext x2 s2 w2, h, st3, e3, fun c3 x3 s3 w3 => ?_⟩
  have r := k1 _ _ (x2.trans x3)
  have X3 := (x1.trans x2).trans x3
  unfold slW at e
  split at e <;> cases e
  · obtain ⟨a, vs, rfl, h1, rl, z, whole⟩ := r.asT
    have hl := rl.length
    refine .inl ⟨a, vs, rfl, h1, fun hw => ?_, fun hw p hp => ?_⟩
    · rw [← hl] at hw
      refine q _ c3 X3 s3 w3 ?_
      rw [cut_whole hw]
      exact whole
    · obtain ⟨x4, s4, w4, f4⟩ := alloc X.K st' (.tup (cutV vs l h)) w3 hp
      exact q _ _ (X3.trans x4.any) (s4 s3) w4 (.tup (.inl (.inl f4)) ((x4.repL rl).cut) (Nat.le_trans (cutW_length ..) z))
  · obtain ⟨a, vs, rfl, h1, rl, z⟩ := r.asL
    refine .inr (.inl ⟨a, vs, rfl, SqL.of h1, fun p hp => ?_⟩)
    obtain ⟨x4, s4, w4, f4⟩ := alloc X.K st' (.lst (cutV vs l h)) w3 hp
    exact q _ _ (X3.trans x4.any) (s4 s3) w4 (.lst f4 ((x4.repL rl).cut) (Nat.le_trans (cutW_length ..) z))
  · obtain ⟨rfl, h1, h2⟩ := r.asS
    exact .inr (.inr ⟨_, rfl, by rw [lim_eq]; exact h2, q _ c3 X3 s3 w3 (.str _ (cutS_ok h1) (Nat.le_trans (cutS_length ..) h2))⟩)

/-! ### lists of expressions, displays -/
def nil_ : Af := fun _ st => .ok [] st
def cons_ (f : Ef) (r : Af) : Af := fun env st => (f env st).bind fun x st1 => (r env st1).bind fun xs st2 => .ok (x :: xs) st2
variable {e : Expr} {es : List Expr} {f : Ef} {fr : Af}
theorem a_nil : AV m X [] nil_ := by
  refine ⟨pa_nil.imp ?_⟩
  rintro σ H Q ⟨ow, ρ, env, st, S, w, st', e, q⟩
  cases e
  exact q [] ⟨ow, H, ρ⟩ (Ext.refl ..) S.s S.wf .nil
theorem a_cons (h : EV m X e f) (hr : AV m X es fr) (hs : starEach (e :: es) X.env = (false, eval e X.env) :: starEach es X.env := by rfl) : AV m X (e :: es) (cons_ f fr) := by
  refine ⟨(pa_cons h.pe hr.pa hs).imp ?_⟩
  rintro σ H Q ⟨ow, ρ, env, st, S, w, st', e, q⟩
  obtain ⟨x, st1, e1, e⟩ := R.bind_ok e
  obtain ⟨xs, st2, e2, e⟩ := R.bind_ok e
  cases e
  refine ⟨ow, ρ, env, st, S, x, st1, e1, fun vx c1 x1 s1 w1 r1 => ?_⟩
  exact ⟨c1.ow, c1.ρ, env, st1, S.ext x1 s1 w1, xs, _, e2, fun vs c2 x2 s2 w2 r2 => q _ c2 (x1.trans x2) s2 w2 (.cons (x2.rep r1) r2)⟩
def tup_ (f : Af) : Ef := fun env st => (f env st).bind fun xs st1 => if xs.length ≤ LIM then .ok (.tup xs) st1 else .no
def lst_ (f : Af) : Ef := fun env st => (f env st).bind fun xs st1 => if xs.length ≤ LIM then .ok (.lst xs) st1 else .no
theorem e_tup {x1} (h : AV m X es fr) : EV m X (.Tuple es x1 pos) (tup_ fr) := by
  refine ⟨(pe_tup h.pa).imp ?_⟩
  rintro σ H Q ⟨ow, ρ, env, st, S, w, st', e, q⟩
  obtain ⟨xs, st1, e1, e⟩ := R.bind_ok e
  refine ⟨ow, ρ, env, st, S, xs, st1, e1, fun vs c1 x1 s1 w1 r1 => ?_⟩
  split at e <;> cases e
  rename_i hz
  refine ⟨by rw [lim_eq, ← r1.length]; exact hz, fun p hp => ?_⟩
  obtain ⟨x4, s4, w4, f4⟩ := alloc X.K st' (.tup vs) w1 hp
  exact q _ _ (x1.trans x4.any) (s4 s1) w4 (.tup (.inl (.inl f4)) (x4.repL r1) hz)
theorem e_lst (h : AV m X es fr) : EV m X (.List es pos) (lst_ fr) := by
  refine ⟨(pe_lst h.pa).imp ?_⟩
  rintro σ H Q ⟨ow, ρ, env, st, S, w, st', e, q⟩
  obtain ⟨xs, st1, e1, e⟩ := R.bind_ok e
  refine ⟨ow, ρ, env, st, S, xs, st1, e1, fun vs c1 x1 s1 w1 r1 => ?_⟩
  split at e <;> cases e
  rename_i hz
  refine ⟨by rw [lim_eq, ← r1.length]; exact hz, fun p hp => ?_⟩
  obtain ⟨x4, s4, w4, f4⟩ := alloc X.K st' (.lst vs) w1 hp
  exact q _ _ (x1.trans x4.any) (s4 s1) w4 (.lst f4 (x4.repL r1) hz)
end
end Cr
/-! Cr6: calls of what is built in. -/
namespace Cr
open PySem PySem.Spec PyProof.Rows L2

def un (g : W → Store → R W) (fa : Ef) : Ef := fun env st => (fa env st).bind fun x st1 => g x st1
/-- a built-in of one argument, by values -/
def Cb1 (K : PySem.W.Frag) (r : List V → Hp → VK → Prop) (g : W → Store → R W) : Prop :=
  ∀ (c : Cf) (st : Store) (x : W) (vx : V) (w : W) (st' : Store) (Q : VK), StR K c st → Wf c → View K c x vx → g x st = .ok w st' →
    (∀ v c', Ext true c c' st st' → StR K c' st' → Wf c' → RepC K c' w v → Q v c'.H) → r [vx] c.H Q
def Cb2 (K : PySem.W.Frag) (r : List V → Hp → VK → Prop) (g : W → W → Store → R W) : Prop :=
  ∀ (c : Cf) (st : Store) (x y : W) (vx vy : V) (w : W) (st' : Store) (Q : VK), StR K c st → Wf c → View K c x vx → View K c y vy → g x y st = .ok w st' →
    (∀ v c', Ext true c c' st st' → StR K c' st' → Wf c' → RepC K c' w v → Q v c'.H) → r [vx, vy] c.H Q
section
variable {X : Cx} {m : Bool} {a b : Expr} {fa fb : Ef} {pos p : Pos} {x : Str} {id : String} {r : List V → Hp → VK → Prop} {g : W → Store → R W} {g2 : W → W → Store → R W}
theorem cb1_imp {K : PySem.W.Frag} (hg : Cb1 K r g) : ∀ σ H Q, tEf K m (un g fa) σ H Q → tCB r (tCons (tOf K m true fa) tNil) σ H Q := by
  rintro σ H Q ⟨ow, ρ, env, st, S, w, st', e, q⟩
  obtain ⟨x, st1, e1, e⟩ := R.bind_ok e
  refine ⟨ow, ρ, env, st, S, x, st1, e1, fun vx c1 x1 s1 w1 r1 k1 => ?_⟩
  exact hg c1 st1 x vx w st' Q s1 w1 r1 e fun v c' x3 s3 w3 r3 => q v c' (x1.trans x3.any) s3 w3 r3
theorem cb2_imp {K : PySem.W.Frag} (hg : Cb2 K r g2) : ∀ σ H Q, tEf K m (bin g2 fa fb) σ H Q → tCB r (tCons (tOf K m m fa) (tCons (tOf K m true fb) tNil)) σ H Q := by
  rintro σ H Q ⟨ow, ρ, env, st, S, w, st', e, q⟩
  obtain ⟨x, st1, e1, e⟩ := R.bind_ok e
  obtain ⟨y, st2, e2, e⟩ := R.bind_ok e
  refine ⟨ow, ρ, env, st, S, x, st1, e1, fun vx c1 x1 s1 w1 r1 k1 => ?_⟩
  refine ⟨c1.ow, c1.ρ, env, st1, S.ext x1 s1 w1, y, st2, e2, fun vy c2 x2 s2 w2 r2 _ => ?_⟩
  exact hg c2 st2 x y vx vy w st' Q s2 w2 (k1 _ _ x2) r2 e fun v c' x3 s3 w3 r3 => q v c' ((x1.trans x2).trans x3.any) s3 w3 r3
theorem e_b1 (hc : CallR X (.builtin id) r) (hg : Cb1 X.K r g) (gl : Gl X x) (hm : X.mg x = none) (hv : bootBuiltins x = some (.builtin id)) (ha : OV m true X a fa) (hn : x ≠ "__name__" := by decide) (hdb : (x == ("__debug__" : Str)) = false := by decide)
    (hs : starEach [a] X.env = (false, eval a X.env) :: starEach [] X.env := by rfl) : EV m X (.Call (.Name x p) [a] [] pos) (un g fa) :=
  ⟨(pe_callB hc gl hm hv (pa_cons ha.pe pa_nil hs) hn hdb hs).imp (cb1_imp hg)⟩
theorem e_bt1 (hc : CallR X (.type id) r) (hg : Cb1 X.K r g) (gl : Gl X x) (hm : X.mg x = none) (hv : bootBuiltins x = some (.type id)) (ha : OV m true X a fa) (hn : x ≠ "__name__" := by decide) (hdb : (x == ("__debug__" : Str)) = false := by decide)
    (hs : starEach [a] X.env = (false, eval a X.env) :: starEach [] X.env := by rfl) : EV m X (.Call (.Name x p) [a] [] pos) (un g fa) :=
  ⟨(pe_callTy hc gl hm hv (pa_cons ha.pe pa_nil hs) hn hdb hs).imp (cb1_imp hg)⟩
theorem e_b2 (hc : CallR X (.builtin id) r) (hg : Cb2 X.K r g2) (gl : Gl X x) (hm : X.mg x = none) (hv : bootBuiltins x = some (.builtin id)) (ha : OV m m X a fa) (hb : OV m true X b fb) (hn : x ≠ "__name__" := by decide) (hdb : (x == ("__debug__" : Str)) = false := by decide)
    (hs : starEach [a, b] X.env = (false, eval a X.env) :: starEach [b] X.env := by rfl) (hs2 : starEach [b] X.env = (false, eval b X.env) :: starEach [] X.env := by rfl) (hpl : (backTo pos (starEach [b] X.env)).any (·.1) = false := by rfl) :
    EV m X (.Call (.Name x p) [a, b] [] pos) (bin g2 fa fb) :=
  ⟨(pe_callB hc gl hm hv (pa_cons ha.pe (pa_cons hb.pe pa_nil hs2) hs) hn hdb hs hpl).imp (cb2_imp hg)⟩
end
theorem CallR.or {X : Cx} {f : Value} {r r' : List V → Hp → VK → Prop} (h : CallR X f r) (h' : CallR X f r') : CallR X f (fun x H Q => r x H Q ∨ r' x H Q) := by
  intro pins s σ H xs us Q I rs q
  rcases q with q | q
  · exact h pins s σ H xs us Q I rs q
  · exact h' pins s σ H xs us Q I rs q

/-! ### their meanings -/
def intsOf : List W → Option (List Int)
  | [] => some []
  | .int i :: r => (intsOf r).map (i :: ·)
  | _ :: _ => none
def boolsOf : List W → Option (List Bool)
  | [] => some []
  | .bl i :: r => (boolsOf r).map (i :: ·)
  | _ :: _ => none
@[simp] theorem intsOf_map (ns : List Int) : intsOf (ns.map W.int) = some ns := by
  induction ns with
  | nil => rfl
  | cons n ns ih => simp [intsOf, ih]
@[simp] theorem boolsOf_map (ns : List Bool) : boolsOf (ns.map W.bl) = some ns := by
  induction ns with
  | nil => rfl
  | cons n ns ih => simp [boolsOf, ih]
theorem intsOf_eq : ∀ {ws : List W} {ns : List Int}, intsOf ws = some ns → ws = ns.map W.int
  | [], _, h => by cases h; rfl
  | w :: ws, ns, h => by
    cases w with
    | int i =>
      simp only [intsOf, Option.map_eq_some_iff] at h
      obtain ⟨r, h1, h2⟩ := h
      subst h2
      rw [intsOf_eq h1, List.map_cons]
    | _ => cases h
theorem boolsOf_eq : ∀ {ws : List W} {ns : List Bool}, boolsOf ws = some ns → ws = ns.map W.bl
  | [], _, h => by cases h; rfl
  | w :: ws, ns, h => by
    cases w with
    | bl i =>
      simp only [boolsOf, Option.map_eq_some_iff] at h
      obtain ⟨r, h1, h2⟩ := h
      subst h2
      rw [boolsOf_eq h1, List.map_cons]
    | _ => cases h
theorem RepL.ints {K : PySem.W.Frag} {H : Hp} {ρ : List Addr} : ∀ {ns : List Int} {vs : List V}, RepL K H ρ (ns.map W.int) vs → vs = ns.map V.int
  | [], _, h => by cases h; rfl
  | n :: ns, _, h => by
    rw [List.map_cons] at h
    cases h with
    | cons q r => cases q; rw [RepL.ints r, List.map_cons]
theorem RepL.bools {K : PySem.W.Frag} {H : Hp} {ρ : List Addr} : ∀ {ns : List Bool} {vs : List V}, RepL K H ρ (ns.map W.bl) vs → vs = ns.map V.bl
  | [], _, h => by cases h; rfl
  | n :: ns, _, h => by
    rw [List.map_cons] at h
    cases h with
    | cons q r => cases q; rw [RepL.bools r, List.map_cons]
theorem repL_ints {K : PySem.W.Frag} {H : Hp} {ρ : List Addr} : ∀ ns : List Int, RepL K H ρ (ns.map W.int) (ns.map V.int)
  | [] => .nil
  | n :: ns => .cons (.int n) (repL_ints ns)

def lenW : W → Store → R W
  | .tup xs, st => .ok (.int xs.length) st
  | .lst xs, st => .ok (.int xs.length) st
  | .str x, st => .ok (.int x.length) st
  | .scr ns, st => .ok (.int ns.length) st
  | _, _ => .no
def absW : W → Store → R W
  | .int i, st => .ok (.int (if i < 0 then -i else i)) st
  | _, _ => .no
def intW : W → Store → R W
  | .int i, st => .ok (.int i) st
  | .bl b, st => .ok (.int (if b then 1 else 0)) st
  | _, _ => .no
def sumW : W → Store → R W
  | .lst xs, st => match intsOf xs with
    | some ns => .ok (.int ns.sum) st
    | none => .no
  | _, _ => .no
def maxI : List Int → Int
  | [] => 0
  | [x] => x
  | x :: r => max x (maxI r)
def minI : List Int → Int
  | [] => 0
  | [x] => x
  | x :: r => min x (minI r)
def maxW : W → Store → R W
  | .lst xs, st => match intsOf xs with
    | some (n :: ns) => .ok (.int (maxI (n :: ns))) st
    | _ => .no
  | _, _ => .no
def minW : W → Store → R W
  | .lst xs, st => match intsOf xs with
    | some (n :: ns) => .ok (.int (minI (n :: ns))) st
    | _ => .no
  | _, _ => .no
def allW : W → Store → R W
  | .lst xs, st => match boolsOf xs with
    | some ns => .ok (.bl (ns.all id)) st
    | none => .no
  | _, _ => .no
def anyW : W → Store → R W
  | .lst xs, st => match boolsOf xs with
    | some ns => .ok (.bl (ns.any id)) st
    | none => .no
  | _, _ => .no
def max2W : W → W → Store → R W
  | .int i, .int j, st => .ok (.int (if j > i then j else i)) st
  | _, _, _ => .no
def min2W : W → W → Store → R W
  | .int i, .int j, st => .ok (.int (if j < i then j else i)) st
  | _, _, _ => .no
def sortI (ns : List Int) : List Int := ns.mergeSort fun a b => decide (a ≤ b)
theorem sortI_perm (ns : List Int) : (sortI ns).Perm ns := List.mergeSort_perm ..
theorem sortI_sorted (ns : List Int) : (sortI ns).Pairwise (· ≤ ·) := by
  have h := List.pairwise_mergeSort (le := fun a b : Int => decide (a ≤ b)) (fun a b c h1 h2 => by simp only [decide_eq_true_eq] at *; omega) (fun a b => by simp only [Bool.or_eq_true, decide_eq_true_eq]; omega) ns
  exact h.imp fun h => by simpa using h
theorem sortI_unique {ns ns' : List Int} (hp : ns'.Perm ns) (hs : ns'.Pairwise (· ≤ ·)) : ns' = sortI ns := PySem.W.ksm_same (hp.trans (sortI_perm ns).symm) hs (sortI_sorted ns)
theorem sortI_length (ns : List Int) : (sortI ns).length = ns.length := (sortI_perm ns).length_eq
/-- the keys of a dict, ints -/
def keysI : List (Key × W) → Option (List Int)
  | [] => some []
  | (.inl i, _) :: r => (keysI r).map (i :: ·)
  | (.inr _, _) :: _ => none
theorem keysI_eq : ∀ {ws : List (Key × W)} {ns : List Int}, keysI ws = some ns → ws.map (·.1) = ns.map Sum.inl
  | [], _, h => by cases h; rfl
  | (.inr _, _) :: ws, ns, h => by cases h
  | (.inl i, _) :: ws, ns, h => by
    simp only [keysI, Option.map_eq_some_iff] at h
    obtain ⟨r, h1, h2⟩ := h
    subst h2
    rw [List.map_cons, List.map_cons, keysI_eq h1]
theorem RepD.keys {K : PySem.W.Frag} {H : Hp} {ρ : List Addr} : ∀ {ws : List (Key × W)} {vs : List (Key × V)}, RepD K H ρ ws vs → ws.map (·.1) = vs.map (·.1)
  | _, _, .nil => rfl
  | _, _, .cons _ r => by rw [List.map_cons, List.map_cons, RepD.keys r]
def sortedW : W → Store → R W
  | .lst xs, st => match intsOf xs with
    | some ns => .ok (.lst ((sortI ns).map .int)) st
    | none => .no
  | .dct kvs, st => match keysI kvs with
    | some ns => if ns.length < 64 then .ok (.lst ((sortI ns).map .int)) st else .no
    | none => .no
  | _, _ => .no
def tupleW : W → Store → R W
  | .lst xs, st => .ok (.tup xs) st
  | .tup xs, st => .ok (.tup xs) st
  | _, _ => .no
def listW : W → Store → R W
  | .lst xs, st => .ok (.lst xs) st
  | .tup xs, st => .ok (.lst xs) st
  | .dct kvs, st => match keysI kvs with
    | some ns => .ok (.lst (ns.map .int)) st
    | none => .no
  | _, _ => .no
/-- pairs with keys -/
def pairsOf : List W → Option (List (Key × W))
  | [] => some []
  | .tup [k, v] :: r => match k.key with
    | some k => (pairsOf r).map ((k, v) :: ·)
    | none => none
  | _ :: _ => none
def mergeW (kvs more : List (Key × W)) : List (Key × W) := more.foldl (fun acc kv => putW acc kv.1 kv.2) kvs
def dictW : W → Store → R W
  | .lst xs, st => match pairsOf xs with
    | some kvs => .ok (.dct (mergeW [] kvs)) st
    | none => .no
  | _, _ => .no

section
variable {K : PySem.W.Frag}
theorem ok_same {c : Cf} {st st' : Store} {w : W} {v : V} {Q : VK} (s : StR K c st) (wf : Wf c) (e : st' = st) (r : RepC K c w v) (q : ∀ v c', Ext true c c' st st' → StR K c' st' → Wf c' → RepC K c' w v → Q v c'.H) : Q v c.H := by
  subst e
  exact q v c (Ext.refl ..) s wf r
theorem b_len : Cb1 K (fun xs H Q => ∃ x n, xs = [x] ∧ LenV K x H n ∧ Q (.int n) H) lenW := by
  intro c st x vx w st' Q s wf rx e q
  unfold lenW at e
  split at e <;> cases e
  · obtain ⟨a, vs, rfl, h1, r, _⟩ := rx.asT
    exact ⟨_, _, rfl, .inr ⟨vs, h1, r.length⟩, ok_same s wf rfl (.int _) q⟩
  · obtain ⟨a, vs, rfl, h1, r, _⟩ := rx.asL
    exact ⟨_, _, rfl, .inl ⟨vs, SqL.of h1, r.length⟩, ok_same s wf rfl (.int _) q⟩
  · obtain ⟨rfl, h1, h2⟩ := rx.asS
    exact ⟨_, _, rfl, ⟨by rw [lim_eq]; exact h2, rfl⟩, ok_same s wf rfl (.int _) q⟩
  · cases rx with
    | of r => cases r with
      | scr hs _ => exact ⟨_, _, rfl, .inl ⟨_, sqL_mono fz_sub hs, by rw [List.length_map]⟩, ok_same s wf rfl (.int _) q⟩
theorem b_abs : Cb1 K (fun xs H Q => ∃ i, xs = [.int i] ∧ Q (.int (if i < 0 then -i else i)) H) absW := by
  intro c st x vx w st' Q s wf rx e q
  unfold absW at e
  split at e <;> cases e
  exact ⟨_, by rw [rx.asI], ok_same s wf rfl (.int _) q⟩
theorem b_int : Cb1 K (fun xs H Q => (∃ i, xs = [.int i] ∧ Q (.int i) H) ∨ ∃ k, xs = [.bl k] ∧ Q (.int (if k then 1 else 0)) H) intW := by
  intro c st x vx w st' Q s wf rx e q
  unfold intW at e
  split at e <;> cases e
  · exact .inl ⟨_, by rw [rx.asI], ok_same s wf rfl (.int _) q⟩
  · exact .inr ⟨_, by rw [rx.asB], ok_same s wf rfl (.int _) q⟩
theorem b_sum : Cb1 K (rSum K) sumW := by
  intro c st x vx w st' Q s wf rx e q
  unfold sumW at e
  split at e
  · split at e <;> cases e
    rename_i ns hn
    obtain ⟨a, vs, rfl, h1, r, _⟩ := rx.asL
    rw [intsOf_eq hn] at r
    rw [r.ints] at h1
    exact ⟨a, ns, rfl, SqL.of h1, ok_same s wf rfl (.int _) q⟩
  · cases e
theorem maxI_spec : ∀ {ns : List Int} {m : Int}, m ∈ ns → (∀ y, y ∈ ns → y ≤ m) → m = maxI ns
  | [], _, h, _ => by cases h
  | [x], m, h, _ => by rw [List.mem_singleton.mp h]; rfl
  | x :: y :: r, m, h, u => by
    have hx := u x List.mem_cons_self
    show m = max x (maxI (y :: r))
    by_cases hm : m ∈ y :: r
    · have := maxI_spec hm fun z hz => u z (List.mem_cons_of_mem _ hz)
      rw [← this]; omega
    · have e : m = x := by
        rcases List.mem_cons.mp h with e | e
        · exact e
        · exact absurd e hm
      have : maxI (y :: r) ≤ m := by
        have mem : ∀ l : List Int, l ≠ [] → maxI l ∈ l := by
          intro l
          induction l with
          | nil => intro z; exact absurd rfl z
          | cons a t ih =>
            intro _
            cases t with
            | nil => exact List.mem_singleton.mpr rfl
            | cons b t =>
              show max a (maxI (b :: t)) ∈ _
              have := ih (by simp)
              rcases Int.le_total a (maxI (b :: t)) with z | z
              · rw [Int.max_eq_right z]; exact List.mem_cons_of_mem _ this
              · rw [Int.max_eq_left z]; exact List.mem_cons_self
        exact u _ (List.mem_cons_of_mem _ (mem _ (by simp)))
      omega
theorem minI_spec : ∀ {ns : List Int} {m : Int}, m ∈ ns → (∀ y, y ∈ ns → m ≤ y) → m = minI ns
  | [], _, h, _ => by cases h
  | [x], m, h, _ => by rw [List.mem_singleton.mp h]; rfl
  | x :: y :: r, m, h, u => by
    have hx := u x List.mem_cons_self
    show m = min x (minI (y :: r))
    by_cases hm : m ∈ y :: r
    · have := minI_spec hm fun z hz => u z (List.mem_cons_of_mem _ hz)
      rw [← this]; omega
    · have e : m = x := by
        rcases List.mem_cons.mp h with e | e
        · exact e
        · exact absurd e hm
      have : m ≤ minI (y :: r) := by
        have mem : ∀ l : List Int, l ≠ [] → minI l ∈ l := by
          intro l
          induction l with
          | nil => intro z; exact absurd rfl z
          | cons a t ih =>
            intro _
            cases t with
            | nil => exact List.mem_singleton.mpr rfl
            | cons b t =>
              show min a (minI (b :: t)) ∈ _
              have := ih (by simp)
              rcases Int.le_total a (minI (b :: t)) with z | z
              · rw [Int.min_eq_left z]; exact List.mem_cons_self
              · rw [Int.min_eq_right z]; exact List.mem_cons_of_mem _ this
        exact u _ (List.mem_cons_of_mem _ (mem _ (by simp)))
      omega
theorem b_max : Cb1 K (rMax K) maxW := by
  intro c st x vx w st' Q s wf rx e q
  unfold maxW at e
  split at e
  · split at e <;> cases e
    rename_i n ns hn
    obtain ⟨a, vs, rfl, h1, r, _⟩ := rx.asL
    rw [intsOf_eq hn] at r
    rw [r.ints] at h1
    refine ⟨a, n :: ns, rfl, SqL.of h1, by simp, fun m h2 h3 => ?_⟩
    rw [maxI_spec h2 h3]
    exact ok_same s wf rfl (.int _) q
  · cases e
theorem b_min : Cb1 K (rMin K) minW := by
  intro c st x vx w st' Q s wf rx e q
  unfold minW at e
  split at e
  · split at e <;> cases e
    rename_i n ns hn
    obtain ⟨a, vs, rfl, h1, r, _⟩ := rx.asL
    rw [intsOf_eq hn] at r
    rw [r.ints] at h1
    refine ⟨a, n :: ns, rfl, SqL.of h1, by simp, fun m h2 h3 => ?_⟩
    rw [minI_spec h2 h3]
    exact ok_same s wf rfl (.int _) q
  · cases e
theorem b_all : Cb1 K (rAll K) allW := by
  intro c st x vx w st' Q s wf rx e q
  unfold allW at e
  split at e
  · split at e <;> cases e
    rename_i ns hn
    obtain ⟨a, vs, rfl, h1, r, _⟩ := rx.asL
    rw [boolsOf_eq hn] at r
    rw [r.bools] at h1
    exact ⟨a, ns, rfl, SqL.of h1, ok_same s wf rfl (.bl _) q⟩
  · cases e
theorem b_any : Cb1 K (rAny K) anyW := by
  intro c st x vx w st' Q s wf rx e q
  unfold anyW at e
  split at e
  · split at e <;> cases e
    rename_i ns hn
    obtain ⟨a, vs, rfl, h1, r, _⟩ := rx.asL
    rw [boolsOf_eq hn] at r
    rw [r.bools] at h1
    exact ⟨a, ns, rfl, SqL.of h1, ok_same s wf rfl (.bl _) q⟩
  · cases e
theorem b_max2 : Cb2 K (fun xs H Q => ∃ i j, xs = [.int i, .int j] ∧ Q (.int (if j > i then j else i)) H) max2W := by
  intro c st x y vx vy w st' Q s wf rx ry e q
  unfold max2W at e
  split at e <;> cases e
  exact ⟨_, _, by rw [rx.asI, ry.asI], ok_same s wf rfl (.int _) q⟩
theorem b_min2 : Cb2 K (fun xs H Q => ∃ i j, xs = [.int i, .int j] ∧ Q (.int (if j < i then j else i)) H) min2W := by
  intro c st x y vx vy w st' Q s wf rx ry e q
  unfold min2W at e
  split at e <;> cases e
  exact ⟨_, _, by rw [rx.asI, ry.asI], ok_same s wf rfl (.int _) q⟩
def rSortDI : List V → Hp → VK → Prop := fun xs H Q => ∃ (a : Addr) (kvs : List (Key × V)) (ks : List Int), xs = [.ref a] ∧ Rd H a (.dK kvs) ∧ kvs.map (·.1) = ks.map Sum.inl ∧ ks.length < 64 ∧
    ∀ (ys : List Int) (p : Addr), ys.Perm ks → ys.Pairwise (· ≤ ·) → H p = none → Q (.ref p) (upd H p (.lst (ys.map V.int)))
theorem ok_lst {c : Cf} {st st' : Store} {ns : List Int} {p : Addr} {Q : VK} (s : StR K c st) (wf : Wf c) (e : st' = st) (hp : c.H p = none) (hz : ns.length ≤ LIM) (q : ∀ v c', Ext true c c' st st' → StR K c' st' → Wf c' → RepC K c' (.lst (ns.map .int)) v → Q v c'.H) :
    Q (.ref p) (upd c.H p (.lst (ns.map V.int))) := by
  subst e
  obtain ⟨x4, s4, w4, f4⟩ := alloc K st' (.lst (ns.map V.int)) wf hp
  exact q _ _ x4 (s4 s) w4 (.lst f4 (repL_ints ns) (by rw [List.length_map]; exact hz))
theorem b_sorted : Cb1 K (fun xs H Q => rSortedI K xs H Q ∨ rSortDI xs H Q) sortedW := by
  intro c st x vx w st' Q s wf rx e q
  unfold sortedW at e
  split at e
  · split at e <;> cases e
    rename_i ns hn
    obtain ⟨a, vs, rfl, h1, r, z⟩ := rx.asL
    have hl : ns.length ≤ LIM := by rw [intsOf_eq hn, List.length_map] at z; exact z
    rw [intsOf_eq hn] at r
    rw [r.ints] at h1
    refine .inl ⟨a, ns, rfl, SqL.of h1, fun ns' p h2 h3 hp => ?_⟩
    rw [sortI_unique h2 h3]
    exact ok_lst s wf rfl hp (by rw [sortI_length]; exact hl) q
  · split at e
    · split at e <;> cases e
      rename_i ns hn h64
      obtain ⟨a, vs, rfl, h1, r, z⟩ := rx.asD
      refine .inr ⟨a, vs, ns, rfl, h1, by rw [← r.keys, keysI_eq hn], h64, fun ys p h2 h3 hp => ?_⟩
      rw [sortI_unique h2 h3]
      exact ok_lst s wf rfl hp (by rw [sortI_length]; exact Nat.le_trans (Nat.le_of_lt h64) (by decide)) q
    · cases e
  · cases e
theorem b_tuple : Cb1 K (fun xs H Q => ∃ p ys, xs = [.ref p] ∧ ((SqL K H p ys ∧ ∀ l, H l = none → Q (.ref l) (upd H l (.tup ys))) ∨ (SqT K H p ys ∧ Q (.ref p) H))) tupleW := by
  intro c st x vx w st' Q s wf rx e q
  unfold tupleW at e
  split at e <;> cases e
  · obtain ⟨a, vs, rfl, h1, r, z⟩ := rx.asL
    refine ⟨a, vs, rfl, .inl ⟨SqL.of h1, fun p hp => ?_⟩⟩
    obtain ⟨x4, s4, w4, f4⟩ := alloc K _ (.tup vs) wf hp
    exact q _ _ x4 (s4 s) w4 (.tup (.inl (.inl f4)) (x4.repL r) z)
  · obtain ⟨a, vs, rfl, h1, r, z, whole⟩ := rx.asT
    exact ⟨a, vs, rfl, .inr ⟨h1, ok_same s wf rfl whole q⟩⟩
def rListDK : List V → Hp → VK → Prop := fun xs H Q => ∃ (a : Addr) (kvs : List (Key × V)), xs = [.ref a] ∧ Rd H a (.dK kvs) ∧ ∀ p, H p = none → Q (.ref p) (upd H p (.lst (kvs.map fun kv => kV kv.1)))
theorem keys_kV : ∀ {kvs : List (Key × V)} {ns : List Int}, kvs.map (·.1) = ns.map Sum.inl → (kvs.map fun kv => kV kv.1) = ns.map V.int
  | [], [], _ => rfl
  | [], _ :: _, h => by simp at h
  | _ :: _, [], h => by simp at h
  | (k, v) :: r, n :: ns, h => by
    rw [List.map_cons, List.map_cons, List.cons.injEq] at h
    obtain ⟨h1, h2⟩ := h
    have h1 : k = Sum.inl n := h1
    rw [List.map_cons, List.map_cons, keys_kV h2, h1]
    rfl
theorem b_list : Cb1 K (fun xs H Q => (∃ p ys, xs = [.ref p] ∧ (SqL K H p ys ∨ SqT K H p ys) ∧ ∀ l, H l = none → Q (.ref l) (upd H l (.lst ys))) ∨ rListDK xs H Q) listW := by
  intro c st x vx w st' Q s wf rx e q
  unfold listW at e
  split at e
  · cases e
    obtain ⟨a, vs, rfl, h1, r, z⟩ := rx.asL
    refine .inl ⟨a, vs, rfl, .inl (SqL.of h1), fun p hp => ?_⟩
    obtain ⟨x4, s4, w4, f4⟩ := alloc K _ (.lst vs) wf hp
    exact q _ _ x4 (s4 s) w4 (.lst f4 (x4.repL r) z)
  · cases e
    obtain ⟨a, vs, rfl, h1, r, z, _⟩ := rx.asT
    refine .inl ⟨a, vs, rfl, .inr h1, fun p hp => ?_⟩
    obtain ⟨x4, s4, w4, f4⟩ := alloc K _ (.lst vs) wf hp
    exact q _ _ x4 (s4 s) w4 (.lst f4 (x4.repL r) z)
  · split at e <;> cases e
    rename_i ns hn
    obtain ⟨a, vs, rfl, h1, r, z⟩ := rx.asD
    refine .inr ⟨a, vs, rfl, h1, fun p hp => ?_⟩
    rw [keys_kV (show vs.map (·.1) = ns.map Sum.inl by rw [← r.keys, keysI_eq hn])]
    refine ok_lst s wf rfl hp ?_ q
    have := congrArg List.length (keysI_eq hn)
    rw [List.length_map, List.length_map] at this
    rw [← this]; exact z
  · cases e
end
end Cr
/-! Cr7: new lists and dicts of a slot's own; statements. -/
namespace Cr
open PySem PySem.Spec PyProof.Rows L2

/-! ### keeping -/
section
variable {K : PySem.W.Frag} {m : Bool} {c c1 : Cf} {st : Store} {env : Env} {σ : L2.St}
/-- frozen things stand -/
def Frz (c c1 : Cf) : Prop := ∀ a o, c.ow a = none → c.H a = some o → c1.ow a = none ∧ c1.H a = some o
theorem StR.keep (s : StR K c st) (hf : Frz c c1) (e : c1.ρ = c.ρ) (ho : ∀ a n, c.ow a = some (.obj n) → c1.ow a = some (.obj n) ∧ c1.H a = c.H a)
    (hp : ∀ a n f, c.ow a = some (.fld n f) → c1.ow a = some (.fld n f) ∧ c1.H a = c.H a) : StR K c1 st := by
  refine ⟨s.len.trans (by rw [e]), fun n ob q => ?_⟩
  obtain ⟨a, h1, h2⟩ := s.at_ n ob q
  refine ⟨a, by rw [e]; exact h1, ?_⟩
  cases h2 with
  | dict e1 e2 e3 r =>
    obtain ⟨x, y⟩ := ho _ _ e2
    exact .dict e1 x (y.trans e3) (r.keep hf (fun n a z => by rw [e]; exact z) fun a f z => hp a _ f z)
theorem EnvR.put {i : Nat} {o : O} {v : V} (E : EnvR K c env σ) (h : Hd K c1 (.env i) o v) (hf : Frz c c1) (hl : ∀ (n : Nat) (a : Addr), c.ρ[n]? = some a → c1.ρ[n]? = some a)
    (hp : ∀ j a, j ≠ i → c.ow a = some (.env j) → c1.ow a = some (.env j) ∧ c1.H a = c.H a) : EnvR K c1 (env.set i (some o)) (σ.set i (some v)) := by
  refine ⟨by rw [List.length_set, List.length_set]; exact E.len, fun j u hj => ?_⟩
  by_cases e : j = i
  · subst e
    have hlt : j < env.length := by
      have := (List.getElem?_eq_some_iff.mp hj).1
      rwa [List.length_set] at this
    rw [List.getElem?_set_self hlt] at hj
    cases hj
    exact ⟨v, List.getElem?_set_self (by rw [← E.len]; exact hlt), h⟩
  · rw [List.getElem?_set_ne (Ne.symm e)] at hj
    obtain ⟨v', h1, h2⟩ := E.at_ j u hj
    exact ⟨v', by rw [List.getElem?_set_ne (Ne.symm e)]; exact h1, h2.keep hf hl fun a q => hp j a e q⟩
theorem EnvR.mut {i : Nat} {o : O} {v : V} (E : EnvR K c env σ) (hv : σ[i]? = some (some v)) (h : Hd K c1 (.env i) o v) (hf : Frz c c1) (hl : ∀ (n : Nat) (a : Addr), c.ρ[n]? = some a → c1.ρ[n]? = some a)
    (hp : ∀ j a, j ≠ i → c.ow a = some (.env j) → c1.ow a = some (.env j) ∧ c1.H a = c.H a) : EnvR K c1 (env.set i (some o)) σ := by
  have := E.put h hf hl hp
  rwa [show σ.set i (some v) = σ by
    refine List.ext_getElem? fun j => ?_
    by_cases e : j = i
    · subst e
      have hlt := (List.getElem?_eq_some_iff.mp hv).1
      rw [List.getElem?_set_self hlt, hv]
    · rw [List.getElem?_set_ne (Ne.symm e)]] at this
/-- a slot's name is forgotten, or looked at as frozen -/
theorem EnvR.sub {env' : Env} (E : EnvR K c env σ) (hl : env'.length = env.length) (h : ∀ (i : Nat) (o : O), env'[i]? = some (some o) → env[i]? = some (some o)) : EnvR K c env' σ :=
  ⟨hl.trans E.len, fun i o e => E.at_ i o (h i o e)⟩

def updW (ow : Ow) (p : Addr) (q : Option Place) : Ow := fun a => if a = p then q else ow a
theorem updW_same {ow : Ow} {p : Addr} {q : Option Place} : updW ow p q p = q := by unfold updW; rw [if_pos rfl]
theorem updW_ne {ow : Ow} {p a : Addr} {q : Option Place} (h : a ≠ p) : updW ow p q a = ow a := by unfold updW; rw [if_neg h]
/-- a new thing of a place's own -/
def Cf.new (c : Cf) (p : Addr) (q : Place) (o : HO) : Cf := ⟨updW c.ow p (some q), upd c.H p o, c.ρ⟩
theorem Cf.new_frz {c : Cf} {p : Addr} {q : Place} {o : HO} (wf : Wf c) (hp : c.H p = none) : Frz c (c.new p q o) := fun a u h e => by
  have ne : a ≠ p := ne_of_none e hp
  exact ⟨by show updW _ _ _ _ = _; rw [updW_ne ne]; exact h, by show upd _ _ _ _ = _; rw [upd_ne ne]; exact e⟩
theorem Cf.new_own {c : Cf} {p : Addr} {q : Place} {o : HO} (wf : Wf c) (hp : c.H p = none) {a : Addr} {r : Place} (h : c.ow a = some r) : (c.new p q o).ow a = some r ∧ (c.new p q o).H a = c.H a := by
  obtain ⟨u, e⟩ := wf a r h
  have ne : a ≠ p := ne_of_none e hp
  exact ⟨by show updW _ _ _ _ = _; rw [updW_ne ne]; exact h, by show upd _ _ _ _ = _; rw [upd_ne ne]⟩
theorem Cf.new_wf {c : Cf} {p : Addr} {q : Place} {o : HO} (wf : Wf c) (hp : c.H p = none) : Wf (c.new p q o) := fun a r h => by
  by_cases e : a = p
  · subst e; exact ⟨o, upd_same⟩
  · have h' : c.ow a = some r := by
      have h : updW c.ow p (some q) a = some r := h
      rwa [updW_ne e] at h
    obtain ⟨u, hu⟩ := wf a r h'
    exact ⟨u, by show upd _ _ _ _ = _; rw [upd_ne e]; exact hu⟩
theorem Cf.new_st {c : Cf} {p : Addr} {q : Place} {o : HO} (wf : Wf c) (hp : c.H p = none) (s : StR K c st) : StR K (c.new p q o) st :=
  s.keep (Cf.new_frz wf hp) rfl (fun _ _ h => Cf.new_own wf hp h) fun _ _ _ h => Cf.new_own wf hp h
theorem Cf.new_exs {c : Cf} {p : Addr} {q : Place} {o : HO} (wf : Wf c) (hp : c.H p = none) : ExS c (c.new p q o) := ⟨Cf.new_frz wf hp, fun _ h => Cf.new_own wf hp h, fun _ _ h => h⟩
/-- a place's own thing is written -/
def Cf.wr (c : Cf) (a : Addr) (o : HO) : Cf := ⟨c.ow, upd c.H a o, c.ρ⟩
theorem Cf.wr_frz {c : Cf} {p : Addr} {q : Place} {o : HO} (h : c.ow p = some q) : Frz c (c.wr p o) := fun a u h1 e => by
  have ne : a ≠ p := fun z => by rw [z, h] at h1; cases h1
  exact ⟨h1, by show upd _ _ _ _ = _; rw [upd_ne ne]; exact e⟩
theorem Cf.wr_own {c : Cf} {p : Addr} {q : Place} {o : HO} (h : c.ow p = some q) {a : Addr} {r : Place} (h1 : c.ow a = some r) (hr : r ≠ q) : (c.wr p o).ow a = some r ∧ (c.wr p o).H a = c.H a := by
  have ne : a ≠ p := fun z => by rw [z, h] at h1; cases h1; exact hr rfl
  exact ⟨h1, by show upd _ _ _ _ = _; rw [upd_ne ne]⟩
theorem Cf.wr_wf {c : Cf} {p : Addr} {o : HO} (wf : Wf c) : Wf (c.wr p o) := fun a r h => by
  by_cases e : a = p
  · subst e; exact ⟨o, upd_same⟩
  · obtain ⟨u, hu⟩ := wf a r h
    exact ⟨u, by show upd _ _ _ _ = _; rw [upd_ne e]; exact hu⟩
theorem Cf.wr_st {c : Cf} {p : Addr} {i : Nat} {o : HO} (h : c.ow p = some (.env i)) (s : StR K c st) : StR K (c.wr p o) st :=
  s.keep (Cf.wr_frz h) rfl (fun _ _ h1 => Cf.wr_own h h1 (fun z => by cases z)) (fun _ _ _ h1 => Cf.wr_own h h1 (fun z => by cases z))
theorem Cf.wr_exs {c : Cf} {p : Addr} {i : Nat} {o : HO} (h : c.ow p = some (.env i)) : ExS c (c.wr p o) := ⟨Cf.wr_frz h, fun _ h1 => Cf.wr_own h h1 (fun z => by cases z), fun _ _ h => h⟩
end

/-! ### new things -/
abbrev Nf := Env → Store → R O
def tNf (K : PySem.W.Frag) (m : Bool) (f : Nf) : TE := fun σ H Q => ∃ ow ρ env st, Sm K ⟨ow, H, ρ⟩ env st σ ∧ ∃ o st', f env st = .ok o st' ∧
  match o with
  | .ol ws => ∀ vs c1 p, Ext m ⟨ow, H, ρ⟩ c1 st st' → StR K c1 st' → Wf c1 → c1.H p = none → RepLC K c1 ws vs → ws.length ≤ LIM → Q (.ref p) (upd c1.H p (.lst vs))
  | .od ws => ∀ vs c1 p, Ext m ⟨ow, H, ρ⟩ c1 st st' → StR K c1 st' → Wf c1 → c1.H p = none → RepD K c1.fz c1.ρ ws vs → ws.length ≤ LIM → Q (.ref p) (upd c1.H p (.dK vs))
  | .ot ws => ∀ vs c1 p, Ext m ⟨ow, H, ρ⟩ c1 st st' → StR K c1 st' → Wf c1 → c1.H p = none → RepT K c1.fz c1.ρ ws vs → ws.length ≤ LIM → Q (.ref p) (upd c1.H p (.dT vs))
  | _ => False
structure NV (m : Bool) (X : Cx) (e : Expr) (f : Nf) : Prop where
  pe : PE X e (tNf X.K m f)
/-- it stands for ever -/
def frz_ (f : Nf) : Ef := fun env st => (f env st).bind fun o st1 => match o with
  | .od ws => .ok (.dct ws) st1
  | .ot ws => .ok (.dtt ws) st1
  | _ => .no
def frzL_ (f : Nf) : Ef := fun env st => (f env st).bind fun o st1 => match o with
  | .ol ws => .ok (.lst ws) st1
  | _ => .no
def olst_ (f : Af) : Nf := fun env st => (f env st).bind fun xs st1 => if xs.length ≤ LIM then .ok (.ol xs) st1 else .no
def odct_ : Nf := fun _ st => .ok (.od []) st
def odtt_ : Nf := fun _ st => .ok (.ot []) st
/-- of a value that is a new list -/
def new_ (f : Ef) : Nf := fun env st => (f env st).bind fun x st1 => match x with
  | .lst xs => .ok (.ol xs) st1
  | _ => .no
section
variable {X : Cx} {m : Bool} {a b e : Expr} {es : List Expr} {fa fb : Ef} {fr : Af} {f : Nf} {pos p : Pos}
theorem n_lst (h : AV m X es fr) : NV m X (.List es pos) (olst_ fr) := by
  refine ⟨(pe_lst h.pa).imp ?_⟩
  rintro σ H Q ⟨ow, ρ, env, st, S, o, st', e, q⟩
  obtain ⟨xs, st1, e1, e⟩ := R.bind_ok e
  refine ⟨ow, ρ, env, st, S, xs, st1, e1, fun vs c1 x1 s1 w1 r1 => ?_⟩
  split at e <;> cases e
  rename_i hz
  exact ⟨by rw [lim_eq, ← r1.length]; exact hz, fun p hp => q vs c1 p x1 s1 w1 hp r1 hz⟩
theorem n_dct : NV m X (.Dict [] [] pos) odct_ := by
  refine ⟨PE.imp pe_dnewK ?_⟩
  rintro σ H Q ⟨ow, ρ, env, st, S, o, st', e, q⟩
  cases e
  intro d hd
  exact q [] ⟨ow, H, ρ⟩ d (Ext.refl ..) S.s S.wf hd .nil (Nat.zero_le _)
theorem n_dtt : NV m X (.Dict [] [] pos) odtt_ := by
  refine ⟨PE.imp pe_dnewT ?_⟩
  rintro σ H Q ⟨ow, ρ, env, st, S, o, st', e, q⟩
  cases e
  intro d hd
  exact q [] ⟨ow, H, ρ⟩ d (Ext.refl ..) S.s S.wf hd .nil (Nat.zero_le _)
/-- list(x) -/
theorem n_list {x : Str} (hc : X.calm = true) (gl : Gl X "list") (hm : X.mg "list" = none) (ha : OV m true X a fa)
    (hs : starEach [a] X.env = (false, eval a X.env) :: starEach [] X.env := by rfl) : NV m X (.Call (.Name "list" p) [a] [] pos) (new_ (un listW fa)) := by
  refine ⟨(pe_callTy ((CallR.or call_list_of (call_listD hc)) : CallR X (.type "list") _) gl hm boot_list (pa_cons ha.pe pa_nil hs) (by decide) (by decide) hs).imp ?_⟩
  rintro σ H Q ⟨ow, ρ, env, st, S, w, st', e, q⟩
  obtain ⟨y, st2, e, e2⟩ := R.bind_ok e
  obtain ⟨x, st1, e1, e⟩ := R.bind_ok e
  refine ⟨ow, ρ, env, st, S, x, st1, e1, fun vx c1 x1 s1 w1 r1 k1 => ?_⟩
  unfold listW at e
  split at e
  · cases e; cases e2
    obtain ⟨a, vs, rfl, h1, r, z⟩ := r1.asL
    exact .inl ⟨a, vs, rfl, .inl (SqL.of h1), fun p hp => q vs c1 p x1 s1 w1 hp r z⟩
  · cases e; cases e2
    obtain ⟨a, vs, rfl, h1, r, z, _⟩ := r1.asT
    exact .inl ⟨a, vs, rfl, .inr h1, fun p hp => q vs c1 p x1 s1 w1 hp r z⟩
  · split at e <;> cases e
    rename_i ns hn
    cases e2
    obtain ⟨a, vs, rfl, h1, r, z⟩ := r1.asD
    refine .inr ⟨a, vs, rfl, h1, fun p hp => ?_⟩
    rw [keys_kV (show vs.map (·.1) = ns.map Sum.inl by rw [← r.keys, keysI_eq hn])]
    refine q _ c1 p x1 s1 w1 hp (repL_ints ns) ?_
    have := congrArg List.length (keysI_eq hn)
    rw [List.length_map, List.length_map] at this
    rw [List.length_map, ← this]; exact z
  · cases e
/-- a list times a number -/
theorem n_mul (ha : EV m X a fa) (hb : EV m X b fb) : NV m X (.BinOp a .Mult b pos) (new_ (bin mulW fa fb)) := by
  refine ⟨(pe_op op_rep ha.pe hb.pe).imp ?_⟩
  rintro σ H Q ⟨ow, ρ, env, st, S, w, st', e, q⟩
  obtain ⟨z, st3, e0, e2⟩ := R.bind_ok e
  obtain ⟨x, st1, e1, e4⟩ := R.bind_ok e0
  obtain ⟨y, st2, e3, e⟩ := R.bind_ok e4
  clear e0 e4
  refine ⟨ow, ρ, env, st, S, x, st1, e1, fun vx c1 x1 s1 w1 r1 => ?_⟩
  refine ⟨c1.ow, c1.ρ, env, st1, S.ext x1 s1 w1, y, st2, e3, fun vy c2 x2 s2 w2 r2 => ?_⟩
  have r1 := x2.rep r1
  clear e1 e3
  unfold mulW at e
  split at e
  · split at e <;> cases e
    cases e2
  · split at e <;> cases e
    cases e2
    rename_i h
    cases r1 with
    | lst h1 rl z1 =>
      cases r2
      rename_i a vs
      obtain ⟨hz, k1, k2⟩ := h
      have l1 := rl.length
      refine ⟨a, _, vs, rfl, rfl, (Cf.of_fz h1).2, by omega, by omega, by rw [lim_eq, ← l1]; exact hz, fun p hp => ?_⟩
      refine q _ c2 p (x1.trans x2) s2 w2 hp (rl.rep _) ?_
      rw [List.length_flatten, List.map_replicate, List.sum_replicate_nat, Nat.mul_comm]
      exact hz
  · cases e
/-- dict(a list of pairs) -/
def odictP_ (fa : Ef) : Nf := fun env st => (fa env st).bind fun x st1 => match x with
  | .lst xs => match pairsOf xs with
    | some kvs => .ok (.od (mergeW [] kvs)) st1
    | none => .no
  | _ => .no
theorem pairs_rep {K : PySem.W.Frag} {c : Cf} : ∀ {ws : List W} {vs : List V} {kvs : List (Key × W)}, RepLC K c ws vs → pairsOf ws = some kvs →
    ∃ (ps : List Addr) (us : List (Key × V)), vs = ps.map V.ref ∧ Paired (fun p kv => SqT K c.H p [kV kv.1, kv.2]) ps us ∧ RepD K c.fz c.ρ kvs us ∧ kvs.length = ws.length
  | [], _, _, .nil, e => by cases e; exact ⟨[], [], rfl, .nil, .nil, rfl⟩
  | w :: ws, _, kvs, .cons q r, e => by
    unfold pairsOf at e
    split at e
    · rename_i heq; cases heq
    · rename_i k0 v0 rest heq
      rw [List.cons.injEq] at heq
      obtain ⟨rfl, rfl⟩ := heq
      split at e
      · rename_i k hk
        simp only [Option.map_eq_some_iff] at e
        obtain ⟨kr, h1, h2⟩ := e
        subst h2
        obtain ⟨ps, us, rfl, h3, h4, h5⟩ := pairs_rep r h1
        cases q with
        | @tup a0 _ _ hs hr _ =>
          cases hr with
          | @cons _ vk _ _ q1 hr =>
            cases hr with
            | @cons _ vv _ _ q2 hr =>
              cases hr
              have ek : vk = kV k := View.key (.of q1) hk
              subst ek
              exact ⟨a0 :: ps, (k, vv) :: us, rfl, .cons (sqT_mono fz_sub hs) h3, .cons q2 h4, by simp [h5]⟩
      · cases e
    · cases e
theorem mergeW_rep {K : PySem.W.Frag} {H : Hp} {ρ : List Addr} : ∀ {more : List (Key × W)} {mv : List (Key × V)} {kvs : List (Key × W)} {vs : List (Key × V)}, RepD K H ρ more mv → RepD K H ρ kvs vs → RepD K H ρ (mergeW kvs more) (mergeK vs mv)
  | _, _, _, _, .nil, s => s
  | _, _, kvs, vs, .cons (k := k) (w := w) (v := v) (ws := ws) (vs := us) q r, s => by
    show RepD K H ρ (mergeW (putW kvs k w) ws) (mergeK (putK vs k v) us)
    exact mergeW_rep r (RepD.put k q s)
theorem mergeW_length : ∀ (more kvs : List (Key × W)), (mergeW kvs more).length ≤ kvs.length + more.length
  | [], kvs => by show kvs.length ≤ _; simp
  | p :: more, kvs => by
    show (mergeW (putW kvs p.1 p.2) more).length ≤ _
    have h1 := mergeW_length more (putW kvs p.1 p.2)
    have h2 := putW_length p.1 p.2 kvs
    rw [List.length_cons]; omega
theorem n_dictP (hc : X.calm = true) (gl : Gl X "dict") (hm : X.mg "dict" = none) (ha : EV m X a fa)
    (hs : starEach [a] X.env = (false, eval a X.env) :: starEach [] X.env := by rfl) : NV m X (.Call (.Name "dict" p) [a] [] pos) (odictP_ fa) := by
  refine ⟨(pe_callTy (call_dictP hc) gl hm (by decide +kernel) (pa_cons ha.pe pa_nil hs) (by decide) (by decide) hs).imp ?_⟩
  rintro σ H Q ⟨ow, ρ, env, st, S, w, st', e, q⟩
  obtain ⟨x, st1, e1, e⟩ := R.bind_ok e
  refine ⟨ow, ρ, env, st, S, x, st1, e1, fun vx c1 x1 s1 w1 r1 => ?_⟩
  split at e
  · split at e <;> cases e
    rename_i kvs hk
    cases r1 with
    | lst h1 rl z =>
      obtain ⟨ps, us, rfl, h2, h3, h4⟩ := pairs_rep rl hk
      refine ⟨_, ps, us, rfl, SqL.of (Cf.of_fz h1).2, h2, fun p hp => ?_⟩
      refine q _ c1 p x1 s1 w1 hp (mergeW_rep h3 .nil) ?_
      have := mergeW_length kvs []
      rw [List.length_nil] at this
      omega
  · cases e
/-- a new list, a new dict as a value that stands for ever -/
theorem e_new (h : NV m X e f) : EV m X e (frz_ f) := by
  refine ⟨(PE.lock h.pe).imp ?_⟩
  rintro σ H Q ⟨ow, ρ, env, st, S, w, st', e, q⟩
  obtain ⟨o, st1, e1, e⟩ := R.bind_ok e
  refine ⟨ow, ρ, env, st, S, o, st1, e1, ?_⟩
  have key : ∀ (c1 : Cf) (p : Addr) (u : HO), Ext m ⟨ow, H, ρ⟩ c1 st st1 → StR X.K c1 st1 → Wf c1 → c1.H p = none → Mut (some u) → (∀ od v c', v = .ref p → Ext m ⟨ow, H, ρ⟩ c' st st1 → StR X.K c' st1 → Wf c' → c'.fz p = some (.frz od u) → Ext true c1 c' st1 st1 → c'.H = upd c1.H p (.frz od u) → Q v c'.H) →
      ∃ d u', upd c1.H p u d = some u' ∧ Mut (some u') ∧ ∀ od, Q (.ref p) (upd (upd c1.H p u) d (.frz od u')) := fun c1 p u x1 s1 w1 hp mu k => by
    refine ⟨p, u, upd_same, mu, fun od => ?_⟩
    rw [upd_upd]
    obtain ⟨x4, s4, w4, f4⟩ := alloc X.K st1 (.frz od u) w1 hp
    exact k od _ _ rfl (x1.trans x4.any) (s4 s1) w4 f4 x4 rfl
  split at e
  · cases e
    intro vs c1 p x1 s1 w1 hp r z
    exact key c1 p _ x1 s1 w1 hp trivial fun od v c' hv x s wf f4 x4 _ => by
      subst hv
      exact q _ c' x s wf (.dct f4 (r.mono (fz_le x4.frz) x4.loc) z)
  · cases e
    intro vs c1 p x1 s1 w1 hp r z
    exact key c1 p _ x1 s1 w1 hp trivial fun od v c' hv x s wf f4 x4 _ => by
      subst hv
      exact q _ c' x s wf (.dtt f4 (r.mono (fz_le x4.frz) x4.loc) z)
  · cases e
theorem e_newL (h : NV m X e f) : EV m X e (frzL_ f) := by
  refine ⟨h.pe.imp ?_⟩
  rintro σ H Q ⟨ow, ρ, env, st, S, w, st', e, q⟩
  obtain ⟨o, st1, e1, e⟩ := R.bind_ok e
  refine ⟨ow, ρ, env, st, S, o, st1, e1, ?_⟩
  split at e <;> cases e
  intro vs c1 p x1 s1 w1 hp r z
  obtain ⟨x4, s4, w4, f4⟩ := alloc X.K _ (.lst vs) w1 hp
  exact q _ _ (x1.trans x4.any) (s4 s1) w4 (.lst f4 (x4.repL r) z)
end
end Cr
/-! Cr8: targets, what is walked, comprehensions. -/
namespace Cr
open PySem PySem.Spec PyProof.Rows L2

/-! ### targets -/
abbrev Bf := W → Env → Option Env
abbrev Bfs := List W → Env → Option Env
/-- but for these slots the frames are alike -/
def Same_ (js : List Nat) (σ σ' : L2.St) : Prop := σ'.length = σ.length ∧ ∀ j, j ∉ js → σ'[j]? = σ[j]?
def tGf (K : PySem.W.Frag) (js : List Nat) (b : Bf) : TG := fun v σ H Q => ∃ ow ρ env w, EnvR K ⟨ow, H, ρ⟩ env σ ∧ RepC K ⟨ow, H, ρ⟩ w v ∧ ∃ env', b w env = some env' ∧
  ∀ σ', Same_ js σ σ' → EnvR K ⟨ow, H, ρ⟩ env' σ' → Q σ' H
def tGfs (K : PySem.W.Frag) (js : List Nat) (b : Bfs) : TGs := fun vs σ H Q => ∃ ow ρ env ws, EnvR K ⟨ow, H, ρ⟩ env σ ∧ RepLC K ⟨ow, H, ρ⟩ ws vs ∧ ∃ env', b ws env = some env' ∧
  ∀ σ', Same_ js σ σ' → EnvR K ⟨ow, H, ρ⟩ env' σ' → Q σ' H
structure GV (X : Cx) (tg : Expr) (js : List Nat) (b : Bf) : Prop where
  pg : PG X tg (tGf X.K js b)
structure GVs (X : Cx) (tg : List Expr) (js : List Nat) (b : Bfs) : Prop where
  pg : PGs X tg (tGfs X.K js b)
theorem PG.imp' {X : Cx} {e : Expr} {t t' : TG} (h : PG X e t) (i : ∀ v σ H Q, t' v σ H Q → t v σ H Q) : PG X e t' := ⟨fun pins s σ H v u Q I r q => h.run pins s σ H v u Q I r (i v σ H Q q)⟩
theorem PGs.imp' {X : Cx} {e : List Expr} {t t' : TGs} (h : PGs X e t) (i : ∀ v σ H Q, t' v σ H Q → t v σ H Q) : PGs X e t' := ⟨fun pins s σ H v u Q I r q => h.run pins s σ H v u Q I r (i v σ H Q q)⟩
def bN (i : Nat) : Bf := fun w env => some (env.set i (some (.w w)))
def bNil : Bfs := fun ws env => match ws with
  | [] => some env
  | _ => none
def bCons (b : Bf) (bs : Bfs) : Bfs := fun ws env => match ws with
  | w :: r => (b w env).bind fun env1 => bs r env1
  | [] => none
def bT (n : Nat) (bs : Bfs) : Bf := fun w env => match w with
  | .tup ws => if ws.length = n then bs ws env else none
  | _ => none
section
variable {X : Cx} {pos : Pos}
theorem Same_.refl (js : List Nat) (σ : L2.St) : Same_ js σ σ := ⟨rfl, fun _ _ => rfl⟩
theorem Same_.set (i : Nat) (σ : L2.St) (v : Option V) : Same_ [i] σ (σ.set i v) := ⟨List.length_set .., fun j hj => List.getElem?_set_ne (fun e => hj (by simp [e]))⟩
theorem g_n {i : Nat} {x : Str} (hN : X.N.Nodup) (hi : X.N[i]? = some x) (hx : Loc X.env.scope x) (hf : X.fn x = true ∨ X.env.scope.names.lookup x = some .local := by first | exact .inl rfl | exact .inr rfl | assumption) : GV X (.Name x pos) [i] (bN i) := by
  refine ⟨PG.imp' (pg_name hN hi hx hf) ?_⟩
  rintro v σ H Q ⟨ow, ρ, env, w, E, r, env', e, q⟩
  cases e
  exact q _ (Same_.set ..) (E.put ⟨.w r, trivial⟩ (fun _ _ h h' => ⟨h, h'⟩) (fun _ _ h => h) fun _ _ _ h => ⟨h, rfl⟩)
theorem g_nil : GVs X [] [] bNil := by
  refine ⟨PGs.imp' pgs_nil ?_⟩
  rintro v σ H Q ⟨ow, ρ, env, w, E, r, env', e, q⟩
  unfold bNil at e
  split at e <;> cases e
  cases r
  exact ⟨rfl, q _ (Same_.refl ..) E⟩
theorem g_cons {e : Expr} {es : List Expr} {j1 j2 : List Nat} {b : Bf} {bs : Bfs} (h1 : GV X e j1 b) (h2 : GVs X es j2 bs)
    (hs : (assignEach (e :: es) X.env).map (·.2) = assign e X.env :: (assignEach es X.env).map (·.2) := by rfl) : GVs X (e :: es) (j1 ++ j2) (bCons b bs) := by
  refine ⟨PGs.imp' (pgs_cons h1.pg h2.pg hs) ?_⟩
  rintro v σ H Q ⟨ow, ρ, env, w, E, r, env', e, q⟩
  unfold bCons at e
  split at e
  · rename_i w0 wr
    obtain ⟨env1, e1, e2⟩ := Option.bind_eq_some_iff.mp e
    cases r with
    | cons r1 r2 =>
      refine ⟨_, _, rfl, ow, ρ, env, w0, E, r1, env1, e1, fun σ1 s1 E1 => ?_⟩
      refine ⟨ow, ρ, env1, wr, E1, r2, env', e2, fun σ2 s2 E2 => q σ2 ⟨s2.1.trans s1.1, fun j hj => ?_⟩ E2⟩
      rw [List.mem_append, not_or] at hj
      exact (s2.2 j hj.2).trans (s1.2 j hj.1)
  · cases e
theorem g_t {es : List Expr} {k : Nat} {js : List Nat} {bs : Bfs} {n : Nat} (hc : X.calm = true) (h : GVs X es js bs)
    (hn : (assignEach es X.env).length = n := by rfl) (hst : (assignEach es X.env).findIdx? (·.1) = none := by rfl) : GV X (.Tuple es k pos) js (bT n bs) := by
  refine ⟨PG.imp' (pg_tup hc h.pg hn hst) ?_⟩
  rintro v σ H Q ⟨ow, ρ, env, w, E, r, env', e, q⟩
  unfold bT at e
  split at e
  · split at e
    · rename_i hl
      cases r with
      | tup h1 rl z => exact ⟨_, _, rfl, sqT_mono fz_sub h1, by rw [← rl.length]; exact hl, ow, ρ, env, _, E, rl, env', e, q⟩
    · cases e
  · cases e
end

/-! ### what is walked -/
/-- more things that stand for ever -/
structure Alc (K : PySem.W.Frag) (c c1 : Cf) : Prop where
  ext : ∀ st, Ext true c c1 st st
  str : ∀ st, StR K c st → StR K c1 st
  wf : Wf c1
theorem Alc.refl {K : PySem.W.Frag} {c : Cf} (wf : Wf c) : Alc K c c := ⟨fun st => Ext.refl .., fun _ s => s, wf⟩
def Feeds (K : PySem.W.Frag) (Rl : Cf → Cf → Prop) (J : It) (c : Cf) (ws : List W) : Prop := ∀ c1, Rl c c1 → Wf c1 →
  (∀ (i : Nat) (w : W), ws[i]? = some w → J.go i c1.H ∧ ∀ x H', J.yld i c1.H x H' → ∃ c2, c2.H = H' ∧ Alc K c1 c2 ∧ RepC K c2 w x) ∧ ∀ i : Nat, ws.length ≤ i → J.stop i c1.H
/-- behind expressions -/
def ExE (c c1 : Cf) : Prop := ∃ st st1, Ext false c c1 st st1
theorem ExE.s {c c1 : Cf} (h : ExE c c1) : ExS c c1 := let ⟨_, _, x⟩ := h; x.s
theorem Feeds.e {K : PySem.W.Frag} {J : It} {c : Cf} {ws : List W} (h : Feeds K ExS J c ws) : Feeds K ExE J c ws := fun c1 r => h c1 r.s
abbrev If := Env → Store → R (List W)
def tIf (K : PySem.W.Frag) (m : Bool) (Rl : Cf → Cf → Prop) (f : If) : TI := fun σ H R => ∃ ow ρ env st, Sm K ⟨ow, H, ρ⟩ env st σ ∧ ∃ ws st', f env st = .ok ws st' ∧
  ∀ J c', Ext m ⟨ow, H, ρ⟩ c' st st' → StR K c' st' → Wf c' → Feeds K Rl J c' ws → ws.length ≤ LIM → R J c'.H
structure IV (m : Bool) (Rl : Cf → Cf → Prop) (X : Cx) (tg e : Expr) (f : If) : Prop where
  pi : PI X tg e (tIf X.K m Rl f)
theorem PI.imp' {X : Cx} {tg e : Expr} {t t' : TI} (h : PI X tg e t) (i : ∀ σ H R, t' σ H R → t σ H R) : PI X tg e t' := ⟨fun pins s σ H R I q => h.run pins s σ H R I (i σ H R q)⟩
theorem PI.or {X : Cx} {tg e : Expr} {t t' : TI} (h : PI X tg e t) (h' : PI X tg e t') : PI X tg e (fun σ H R => t σ H R ∨ t' σ H R) :=
  ⟨fun pins s σ H R I q => q.elim (h.run pins s σ H R I) (h'.run pins s σ H R I)⟩
/-- the items of a value that is walked -/
def itemsW : W → Option (List W)
  | .tup ws => some ws
  | .lst ws => some ws
  | .dct kvs => (keysI kvs).map fun ns => ns.map .int
  | .str x => some (x.cps.toList.map fun c => .str ⟨#[c]⟩)
  | _ => none
def items_ (f : Ef) : If := fun env st => (f env st).bind fun x st1 => match itemsW x with
  | some ws => .ok ws st1
  | none => .no
section
variable {X : Cx} {m : Bool} {tg e : Expr} {f : Ef} {pos p : Pos}
theorem feeds_list {K : PySem.W.Frag} {Rl : Cf → Cf → Prop} {c : Cf} {a : Addr} {ws : List W} (h : ∀ c1, Rl c c1 → ∃ vs, SqL K c1.H a vs ∧ RepLC K c1 ws vs) : Feeds K Rl (Itl K a) c ws := fun c1 x wf => by
  obtain ⟨vs, h1, h2⟩ := h c1 x
  refine ⟨fun i w hi => ?_, fun i hi => ⟨vs, h1, by rw [← h2.length]; exact hi⟩⟩
  obtain ⟨v, h3, h4⟩ := h2.get hi
  refine ⟨⟨vs, v, h1, h3⟩, fun x H' ⟨e, y⟩ => ⟨c1, e.symm, Alc.refl wf, ?_⟩⟩
  have := y vs h1
  rw [h3] at this
  cases this
  exact h4
theorem feeds_tup {K : PySem.W.Frag} {Rl : Cf → Cf → Prop} {c : Cf} {a : Addr} {ws : List W} (h : ∀ c1, Rl c c1 → ∃ vs, SqT K c1.H a vs ∧ RepLC K c1 ws vs) : Feeds K Rl (Itt K a) c ws := fun c1 x wf => by
  obtain ⟨vs, h1, h2⟩ := h c1 x
  refine ⟨fun i w hi => ?_, fun i hi => ⟨vs, h1, by rw [← h2.length]; exact hi⟩⟩
  obtain ⟨v, h3, h4⟩ := h2.get hi
  refine ⟨⟨vs, v, h1, h3⟩, fun x H' ⟨e, y⟩ => ⟨c1, e.symm, Alc.refl wf, ?_⟩⟩
  have := y vs h1
  rw [h3] at this
  cases this
  exact h4
theorem keysI_at : ∀ {ws : List (Key × W)} {ns : List Int} {i : Nat} {n : Int}, keysI ws = some ns → ns[i]? = some n → ∃ w, ws[i]? = some (.inl n, w)
  | [], _, _, _, h, e => by cases h; simp at e
  | (.inr _, _) :: ws, _, _, _, h, e => by cases h
  | (.inl k, w) :: ws, ns, i, n, h, e => by
    simp only [keysI, Option.map_eq_some_iff] at h
    obtain ⟨r, h1, h2⟩ := h
    subst h2
    cases i with
    | zero => simp at e; subst e; exact ⟨w, rfl⟩
    | succ i =>
      obtain ⟨w', h3⟩ := keysI_at (i := i) h1 (by simpa using e)
      exact ⟨w', by simpa using h3⟩
theorem RepD.at_ {K : PySem.W.Frag} {H : Hp} {ρ : List Addr} : ∀ {ws : List (Key × W)} {vs : List (Key × V)} {i : Nat} {k : Key} {w : W}, RepD K H ρ ws vs → ws[i]? = some (k, w) → ∃ v, vs[i]? = some (k, v)
  | _, _, _, _, _, .nil, e => by simp at e
  | _, _, 0, _, _, .cons _ _, e => by simp at e; obtain ⟨rfl, rfl⟩ := e; exact ⟨_, rfl⟩
  | _, _, i + 1, _, _, .cons _ r, e => by
    obtain ⟨v, h⟩ := RepD.at_ (i := i) r (by simpa using e)
    exact ⟨v, by simpa using h⟩
theorem keysI_length {ws : List (Key × W)} {ns : List Int} (h : keysI ws = some ns) : ns.length = ws.length := by
  have := congrArg List.length (keysI_eq h)
  rw [List.length_map, List.length_map] at this
  exact this.symm
theorem feeds_keys {K : PySem.W.Frag} {Rl : Cf → Cf → Prop} {c : Cf} {d : Addr} {o : PySem.Obj} {ws : List (Key × W)} {vs : List (Key × V)} {ns : List Int} (hk : keysI ws = some ns) (h : ∀ c1, Rl c c1 → c1.H d = some (.frz o (.dK vs)) ∧ RepD K c1.fz c1.ρ ws vs) :
    Feeds K Rl (Itk d o vs) c (ns.map .int) := fun c1 x wf => by
  obtain ⟨h1, h2⟩ := h c1 x
  have hl := keysI_length hk
  have hl2 := h2.length
  refine ⟨fun i w hi => ?_, fun i hi => ⟨h1, by rw [List.length_map] at hi; omega⟩⟩
  rw [List.getElem?_map, Option.map_eq_some_iff] at hi
  obtain ⟨n, hn, rfl⟩ := hi
  obtain ⟨w', h3⟩ := keysI_at hk hn
  obtain ⟨v, h4⟩ := h2.at_ h3
  refine ⟨⟨h1, (List.getElem?_eq_some_iff.mp h4).1⟩, fun x H' ⟨e, k, v', y, ex⟩ => ⟨c1, e.symm, Alc.refl wf, ?_⟩⟩
  rw [h4] at y
  cases y
  subst ex
  exact .int n
theorem feeds_str {K : PySem.W.Frag} {Rl : Cf → Cf → Prop} {c : Cf} {x : Str} (ok : PyData.strOk x = true) : Feeds K Rl (Its x) c (x.cps.toList.map fun c => .str ⟨#[c]⟩) := fun c1 _ wf => by
  refine ⟨fun i w hi => ?_, fun i hi => by rw [List.length_map, Array.length_toList] at hi; exact hi⟩
  rw [List.getElem?_map, Option.map_eq_some_iff] at hi
  obtain ⟨n, hn, rfl⟩ := hi
  have hm : n ∈ x.cps.toList := List.mem_of_getElem? hn
  have hn' : x.cps[i]? = some n := by rw [← Array.getElem?_toList]; exact hn
  refine ⟨by
    obtain ⟨h, _⟩ := Array.getElem?_eq_some_iff.mp hn'
    exact h, fun y H' ⟨e, k, h1, h2⟩ => ⟨c1, e.symm, Alc.refl wf, ?_⟩⟩
  rw [hn'] at h1
  cases h1
  subst h2
  exact .str _ (strOk_one ok hm) (by show 1 ≤ LIM; decide)
abbrev iAll (K : PySem.W.Frag) (t : TE) : TI := fun σ H R => iList K t σ H R ∨ iTup K t σ H R ∨ iKeys t σ H R ∨ iStr t σ H R
theorem pi_all {te : TE} (h : PE X e te) : PI X tg e (iAll X.K te) := PI.or (pi_list h) (PI.or (pi_tup h) (PI.or (pi_keys h) (pi_str h)))
theorem i_val (h : EV m X e f) : IV m ExS X tg e (items_ f) := by
  refine ⟨PI.imp' (pi_all h.pe) ?_⟩
  rintro σ H Rr ⟨ow, ρ, env, st, S, ws, st', e, q⟩
  obtain ⟨w, st1, e1, e⟩ := R.bind_ok e
  split at e <;> cases e
  rename_i hw
  unfold itemsW at hw
  split at hw
  · cases hw
    refine .inr (.inl ⟨ow, ρ, env, st, S, _, _, e1, fun v c1 x s wf r => ?_⟩)
    cases r with
    | tup h1 rl z => exact ⟨_, rfl, ⟨_, sqT_mono fz_sub h1⟩, q _ c1 x s wf (feeds_tup fun c2 y => ⟨_, sqT_mono fz_sub (sqT_mono (fz_le y.frz) h1), y.repL rl⟩) z⟩
  · cases hw
    refine .inl ⟨ow, ρ, env, st, S, _, _, e1, fun v c1 x s wf r => ?_⟩
    cases r with
    | lst h1 rl z => exact ⟨_, rfl, ⟨_, SqL.of (Cf.of_fz h1).2⟩, q _ c1 x s wf (feeds_list fun c2 y => ⟨_, SqL.of (Cf.of_fz (fz_le y.frz _ _ h1)).2, y.repL rl⟩) z⟩
  · rename_i kvs
    simp only [Option.map_eq_some_iff] at hw
    obtain ⟨ns, hk, rfl⟩ := hw
    refine .inr (.inr (.inl ⟨ow, ρ, env, st, S, _, _, e1, fun v c1 x s wf r => ?_⟩))
    cases r with
    | dct h1 rl z =>
      refine ⟨_, _, rfl, .inl ⟨_, (Cf.of_fz h1).2, q _ c1 x s wf (feeds_keys hk fun c2 y => ⟨(Cf.of_fz (fz_le y.frz _ _ h1)).2, rl.mono (fz_le y.frz) y.loc⟩) ?_⟩⟩
      rw [List.length_map, keysI_length hk]; exact z
  · cases hw
    refine .inr (.inr (.inr ⟨ow, ρ, env, st, S, _, _, e1, fun v c1 x s wf r => ?_⟩))
    cases r with
    | str _ ok z => exact ⟨_, rfl, q _ c1 x s wf (feeds_str ok) (by rw [List.length_map, Array.length_toList]; exact z)⟩
  · cases hw
/-- .. of a thing looked at (no dict) -/
def itemsL (w : W) : Option (List W) := match w with
  | .dct _ => none
  | w => itemsW w
def looks_ (f : Ef) : If := fun env st => (f env st).bind fun x st1 => match itemsL x with
  | some ws => .ok ws st1
  | none => .no
theorem i_look (h : OV m false X e f) : IV m ExE X tg e (looks_ f) := by
  refine ⟨PI.imp' (pi_all h.pe) ?_⟩
  rintro σ H Rr ⟨ow, ρ, env, st, S, ws, st', e, q⟩
  obtain ⟨w, st1, e1, e⟩ := R.bind_ok e
  split at e <;> cases e
  rename_i hw
  unfold itemsL at hw
  split at hw
  · cases hw
  · unfold itemsW at hw
    split at hw
    · cases hw
      refine .inr (.inl ⟨ow, ρ, env, st, S, _, _, e1, fun v c1 x s wf r k => ?_⟩)
      obtain ⟨a, vs, rfl, h1, rl, z, _⟩ := r.asT
      refine ⟨_, rfl, ⟨_, h1⟩, q _ c1 x s wf (feeds_tup fun c2 ⟨_, _, y⟩ => ?_) z⟩
      obtain ⟨a', vs', ea, h2, rl', _, _⟩ := (k c2 _ (⟨y.frz, y.own, y.loc, fun h => nomatch h⟩ : Ext false c1 c2 st' st')).asT
      cases ea
      exact ⟨vs', h2, rl'⟩
    · cases hw
      refine .inl ⟨ow, ρ, env, st, S, _, _, e1, fun v c1 x s wf r k => ?_⟩
      obtain ⟨a, vs, rfl, h1, rl, z⟩ := r.asL
      refine ⟨_, rfl, ⟨_, SqL.of h1⟩, q _ c1 x s wf (feeds_list fun c2 ⟨_, _, y⟩ => ?_) z⟩
      obtain ⟨a', vs', ea, h2, rl', _⟩ := (k c2 _ (⟨y.frz, y.own, y.loc, fun h => nomatch h⟩ : Ext false c1 c2 st' st')).asL
      cases ea
      exact ⟨vs', SqL.of h2, rl'⟩
    · exfalso
      rename_i hd
      simp at hd
    · cases hw
      refine .inr (.inr (.inr ⟨ow, ρ, env, st, S, _, _, e1, fun v c1 x s wf r k => ?_⟩))
      obtain ⟨rfl, ok, z⟩ := r.asS
      exact ⟨_, rfl, q _ c1 x s wf (feeds_str ok) (by rw [List.length_map, Array.length_toList]; exact z)⟩
    · cases hw

/-! ### ranges -/
def rgW (lo : Int) (n : Nat) : List W := (List.range n).map fun i => .int (lo + (i : Nat))
def rgOk (lo hi : Int) : Bool := decide (-(2 ^ 62) ≤ lo ∧ lo < 2 ^ 62 ∧ -(2 ^ 62) ≤ hi ∧ hi < 2 ^ 62 ∧ (hi - lo).toNat ≤ LIM)
def rng1_ (f : Af) : If := fun env st => (f env st).bind fun xs st1 => match xs with
  | [.int n] => if rgOk 0 n then .ok (rgW 0 n.toNat) st1 else .no
  | _ => .no
def rng2_ (f : Af) : If := fun env st => (f env st).bind fun xs st1 => match xs with
  | [.int a, .int b] => if rgOk a b then .ok (rgW a (b - a).toNat) st1 else .no
  | _ => .no
/-- downward by ones -/
def rng3_ (f : Af) : If := fun env st => (f env st).bind fun xs st1 => match xs with
  | [.int a, .int b, .int (-1)] => if rgOk b a then .ok ((List.range (a - b).toNat).map fun i => .int (a - (i : Nat))) st1 else .no
  | _ => .no
theorem rgW_length (lo : Int) (n : Nat) : (rgW lo n).length = n := by unfold rgW; rw [List.length_map, List.length_range]
theorem feeds_rg {K : PySem.W.Frag} {Rl : Cf → Cf → Prop} {c : Cf} {lo : Int} {n : Nat} : Feeds K Rl (Itr lo n) c (rgW lo n) := fun c1 _ wf => by
  refine ⟨fun i w hi => ?_, fun i hi => by rw [rgW_length] at hi; exact hi⟩
  unfold rgW at hi
  rw [List.getElem?_map, Option.map_eq_some_iff] at hi
  obtain ⟨j, hj, rfl⟩ := hi
  obtain ⟨h1, h2⟩ := List.getElem?_eq_some_iff.mp hj
  rw [List.getElem_range] at h2
  subst h2
  rw [List.length_range] at h1
  exact ⟨h1, fun x H' ⟨e, ex⟩ => ⟨c1, e.symm, Alc.refl wf, by subst ex; exact .int _⟩⟩
theorem feeds_rgC {K : PySem.W.Frag} {Rl : Cf → Cf → Prop} {c : Cf} {a : Int} {n : Nat} : Feeds K Rl (Itc a (-1) n) c ((List.range n).map fun i => .int (a - (i : Nat))) := fun c1 _ wf => by
  refine ⟨fun i w hi => ?_, fun i hi => by rw [List.length_map, List.length_range] at hi; exact hi⟩
  rw [List.getElem?_map, Option.map_eq_some_iff] at hi
  obtain ⟨j, hj, rfl⟩ := hi
  obtain ⟨h1, h2⟩ := List.getElem?_eq_some_iff.mp hj
  rw [List.getElem_range] at h2
  subst h2
  rw [List.length_range] at h1
  refine ⟨h1, fun x H' ⟨e, ex⟩ => ⟨c1, e.symm, Alc.refl wf, ?_⟩⟩
  subst ex
  rw [show a + ((i : Nat) : Int) * -1 = a - (i : Nat) by omega]
  exact .int _
variable {a b d : Expr} {fr : Af}
theorem i_rng1 (hg : Gl X "range") (hm : X.mg "range" = none) (ha : AV m X [a] fr) (hs : starEach [a] X.env = [(false, eval a X.env)] := by rfl) : IV m ExS X tg (.Call (.Name "range" p) [a] [] pos) (rng1_ fr) := by
  refine ⟨PI.imp' (pi_range1 hg hm ha.pa hs) ?_⟩
  rintro σ H Rr ⟨ow, ρ, env, st, S, ws, st', e, q⟩
  obtain ⟨w, st1, e1, e⟩ := R.bind_ok e
  refine ⟨ow, ρ, env, st, S, _, _, e1, fun v c1 x s wf r => ?_⟩
  split at e
  · split at e <;> cases e
    rename_i h
    unfold rgOk at h
    simp only [decide_eq_true_eq] at h
    cases r with
    | cons r1 r2 =>
      cases r1; cases r2
      refine ⟨_, rfl, h.2.2.1, h.2.2.2.1, q _ c1 x s wf feeds_rg ?_⟩
      rw [rgW_length]; omega
  · cases e
theorem i_rng2 (hg : Gl X "range") (hm : X.mg "range" = none) (ha : AV m X [a, b] fr) (hs : starEach [a, b] X.env = [(false, eval a X.env), (false, eval b X.env)] := by rfl) (hs2 : starEach [b] X.env = [(false, eval b X.env)] := by rfl) : IV m ExS X tg (.Call (.Name "range" p) [a, b] [] pos) (rng2_ fr) := by
  refine ⟨PI.imp' (pi_range2 hg hm ha.pa hs hs2) ?_⟩
  rintro σ H Rr ⟨ow, ρ, env, st, S, ws, st', e, q⟩
  obtain ⟨w, st1, e1, e⟩ := R.bind_ok e
  refine ⟨ow, ρ, env, st, S, _, _, e1, fun v c1 x s wf r => ?_⟩
  split at e
  · split at e <;> cases e
    rename_i h
    unfold rgOk at h
    simp only [decide_eq_true_eq] at h
    cases r with
    | cons r1 r2 =>
      cases r1
      cases r2 with
      | cons r2 r3 =>
        cases r2; cases r3
        refine ⟨_, _, rfl, ⟨h.1, h.2.1, h.2.2.1, h.2.2.2.1⟩, q _ c1 x s wf feeds_rg ?_⟩
        rw [rgW_length]; exact h.2.2.2.2
  · cases e
theorem i_rng3 (hg : Gl X "range") (hm : X.mg "range" = none) (ha : AV m X [a, b, d] fr) (hs : starEach [a, b, d] X.env = (false, eval a X.env) :: starEach [b, d] X.env := by rfl) (hpl : (backTo pos (starEach [b, d] X.env)).any (·.1) = false := by rfl) : IV m ExS X tg (.Call (.Name "range" p) [a, b, d] [] pos) (rng3_ fr) := by
  refine ⟨PI.imp' (pi_range3 hg hm ha.pa hs hpl) ?_⟩
  rintro σ H Rr ⟨ow, ρ, env, st, S, ws, st', e, q⟩
  obtain ⟨w, st1, e1, e⟩ := R.bind_ok e
  refine ⟨ow, ρ, env, st, S, _, _, e1, fun v c1 x s wf r => ?_⟩
  split at e
  · split at e <;> cases e
    rename_i h
    unfold rgOk at h
    simp only [decide_eq_true_eq] at h
    cases r with
    | cons r1 r2 =>
      cases r1
      cases r2 with
      | cons r2 r3 =>
        cases r2
        cases r3 with
        | cons r3 r4 =>
          cases r3; cases r4
          refine ⟨_, _, _, _, rfl, RgC.neg h.2.2.1 h.2.2.2.1 h.1 h.2.1, q _ c1 x s wf feeds_rgC ?_⟩
          rw [List.length_map, List.length_range]; exact h.2.2.2.2
  · cases e
end
end Cr
/-! Cr9: comprehensions. -/
namespace Cr
open PySem PySem.Spec PyProof.Rows L2

def wipeE (env : Env) : List Nat → Env
  | [] => env
  | v :: vs => (wipeE env vs).set v none
theorem wipeE_length (env : Env) : ∀ vs : List Nat, (wipeE env vs).length = env.length
  | [] => rfl
  | v :: vs => by unfold wipeE; rw [List.length_set, wipeE_length env vs]
theorem wipe_at {σ : L2.St} {j : Nat} : ∀ {vs : List Nat}, j ∉ vs → (wipe σ vs)[j]? = σ[j]?
  | [], _ => rfl
  | v :: vs, h => by
    rw [List.mem_cons, not_or] at h
    unfold wipe
    rw [List.getElem?_set_ne (Ne.symm h.1), wipe_at h.2]
theorem wipe_in {σ : L2.St} {j : Nat} : ∀ {vs : List Nat}, j ∈ vs → j < σ.length → (wipe σ vs)[j]? = some none
  | [], h, _ => by cases h
  | v :: vs, h, hl => by
    unfold wipe
    by_cases e : j = v
    · subst e
      exact List.getElem?_set_self (by rw [wipe_length]; exact hl)
    · rw [List.getElem?_set_ne (Ne.symm e)]
      rcases List.mem_cons.mp h with h | h
      · exact absurd h e
      · exact wipe_in h hl
theorem wipeE_at {σ : Env} {j : Nat} : ∀ {vs : List Nat}, j ∉ vs → (wipeE σ vs)[j]? = σ[j]?
  | [], _ => rfl
  | v :: vs, h => by
    rw [List.mem_cons, not_or] at h
    unfold wipeE
    rw [List.getElem?_set_ne (Ne.symm h.1), wipeE_at h.2]
theorem wipeE_some {σ : Env} {i : Nat} {x : O} : ∀ {vs : List Nat}, (wipeE σ vs)[i]? = some (some x) → σ[i]? = some (some x) ∧ i ∉ vs
  | [], h => ⟨h, by simp⟩
  | v :: vs, h => by
    unfold wipeE at h
    by_cases e : v = i
    · subst e
      by_cases hl : v < (wipeE σ vs).length
      · rw [List.getElem?_set_self hl] at h; cases h
      · rw [List.getElem?_eq_none (by rw [List.length_set]; omega)] at h; cases h
    · rw [List.getElem?_set_ne e] at h
      obtain ⟨h1, h2⟩ := wipeE_some h
      exact ⟨h1, by rw [List.mem_cons, not_or]; exact ⟨fun q => e q.symm, h2⟩⟩
theorem EnvR.wipe {K : PySem.W.Frag} {c : Cf} {env : Env} {σ : L2.St} (E : EnvR K c env σ) (vs : List Nat) : EnvR K c (wipeE env vs) (wipe σ vs) := by
  refine ⟨by rw [wipeE_length, wipe_length]; exact E.len, fun i o h => ?_⟩
  obtain ⟨h1, h2⟩ := wipeE_some h
  obtain ⟨v, h3, h4⟩ := E.at_ i o h1
  exact ⟨v, by rw [wipe_at h2]; exact h3, h4⟩
theorem wipe_same {σ σ' : L2.St} {js vs : List Nat} (h : Same_ js (wipe σ vs) σ') (hj : ∀ j ∈ js, j ∈ vs) : wipe σ' vs = wipe σ vs := by
  have hl : σ'.length = σ.length := by rw [h.1, wipe_length]
  refine List.ext_getElem? fun j => ?_
  by_cases e : j ∈ vs
  · by_cases q : j < σ.length
    · rw [wipe_in e q, wipe_in e (by rw [hl]; exact q)]
    · rw [List.getElem?_eq_none (by rw [wipe_length]; omega), List.getElem?_eq_none (by rw [wipe_length]; omega)]
  · rw [wipe_at e, h.2 j fun z => e (hj j z)]

def compL (vs : List Nat) (b : Bf) (ft : Tf) (fe : Ef) (env : Env) : List W → Store → R (List W)
  | [], st => .ok [] st
  | w :: ws, st => match b w (wipeE env vs) with
    | none => .no
    | some env1 => (ft env1 st).bind fun k st1 => if k = true then (fe env1 st1).bind fun y st2 => (compL vs b ft fe env ws st2).bind fun ys st3 => .ok (y :: ys) st3 else compL vs b ft fe env ws st1
def comp_ (fi : If) (vs : List Nat) (b : Bf) (ft : Tf) (fe : Ef) : Nf := fun env st => (fi env st).bind fun ws st1 => (compL vs b ft fe env ws st1).bind fun ys st2 => .ok (.ol ys) st2
def yes_ : Tf := fun _ st => .ok true st
structure TsV (m : Bool) (X : Cx) (ifs : List Expr) (f : Tf) : Prop where
  pts : PTs X ifs (tTf X.K m f)
theorem PTs.imp' {X : Cx} {e : List Expr} {t t' : TT} (h : PTs X e t) (i : ∀ σ H Q, t' σ H Q → t σ H Q) : PTs X e t' := ⟨fun pins s σ H Q I q => h.run pins s σ H Q I (i σ H Q q)⟩
theorem ts_nil {X : Cx} {m : Bool} : TsV m X [] yes_ := by
  refine ⟨PTs.imp' pts_nil ?_⟩
  rintro σ H Q ⟨ow, ρ, env, st, S, b, st', e, q⟩
  cases e
  exact q ⟨ow, H, ρ⟩ (Ext.refl ..) S.s S.wf
theorem ts_one {X : Cx} {m : Bool} {c : Expr} {f : Tf} (h : TV m X c f) : TsV m X [c] f := ⟨pts_one h.pt⟩
theorem EV.gen {m : Bool} {X : Cx} {e : Expr} {f : Ef} (h : EV m X e f) : EV false X e f := by
  cases m with
  | false => exact h
  | true =>
    refine ⟨h.pe.imp ?_⟩
    rintro σ H Q ⟨ow, ρ, env, st, S, w, st', e, q⟩
    exact ⟨ow, ρ, env, st, S, w, st', e, fun v c' x s wf r => q v c' x.gen s wf r⟩

section
variable {K : PySem.W.Frag} {m : Bool}
theorem Ext.wr {c1 c : Cf} {st st' : Store} {D : Addr} {o : HO} (x : Ext m c1 c st st') (hD : c1.H D = none) (wf : Wf c1) : Ext m c1 (c.wr D o) st st' := by
  have ne : ∀ a u, c1.H a = some u → a ≠ D := fun a u e => ne_of_none e hD
  refine ⟨fun a u h e => ?_, fun a p h hp => ?_, x.loc, fun hm => ?_⟩
  · obtain ⟨p, q⟩ := x.frz a u h e
    exact ⟨p, by show upd _ _ _ _ = _; rw [upd_ne (ne a u e)]; exact q⟩
  · obtain ⟨u, e⟩ := wf a p h
    obtain ⟨q, r⟩ := x.own a p h hp
    exact ⟨q, by show upd _ _ _ _ = _; rw [upd_ne (ne a u e)]; exact r⟩
  · obtain ⟨e, h⟩ := x.still hm
    refine ⟨e, fun a u q => ?_⟩
    obtain ⟨p, r⟩ := h a u q
    exact ⟨p, by show upd _ _ _ _ = _; rw [upd_ne (ne a u q)]; exact r⟩
theorem Ext.new {c : Cf} {st : Store} {D : Addr} {q : Place} {o : HO} (wf : Wf c) (hD : c.H D = none) : Ext m c (c.new D q o) st st :=
  ⟨Cf.new_frz wf hD, fun a p h _ => Cf.new_own wf hD h, fun _ _ h => h, fun _ => ⟨rfl, fun a u e => by
    have ne : a ≠ D := ne_of_none e hD
    exact ⟨by show updW _ _ _ _ = _; rw [updW_ne ne], by show upd _ _ _ _ = _; rw [upd_ne ne]; exact e⟩⟩⟩
theorem StR.wrOut {c : Cf} {st : Store} {D : Addr} {o : HO} (s : StR K c st) (h : c.ow D = some .out) : StR K (c.wr D o) st :=
  s.keep (Cf.wr_frz h) rfl (fun _ _ h1 => Cf.wr_own h h1 (fun z => by cases z)) (fun _ _ _ h1 => Cf.wr_own h h1 (fun z => by cases z))
/-- without D -/
def Cf.cut (c : Cf) (D : Addr) : Cf := ⟨updW c.ow D none, fun a => if a = D then none else c.H a, c.ρ⟩
theorem Cf.cut_H {c : Cf} {D a : Addr} (h : a ≠ D) : (c.cut D).H a = c.H a := by show (if a = D then none else c.H a) = _; rw [if_neg h]
theorem Cf.cut_ow {c : Cf} {D a : Addr} (h : a ≠ D) : (c.cut D).ow a = c.ow a := updW_ne h
theorem Cf.cut_fz {c : Cf} {D : Addr} {p : Place} (h : c.ow D = some p) : (c.cut D).fz = c.fz := by
  funext a
  by_cases e : a = D
  · subst e
    rw [Cf.fz_of (c := c.cut a) updW_same]
    show (if a = a then none else c.H a) = _
    rw [if_pos rfl]
    unfold Cf.fz
    rw [h]
  · unfold Cf.fz
    rw [Cf.cut_ow e, Cf.cut_H e]
theorem Cf.cut_upd {c : Cf} {D : Addr} {o : HO} (h : c.H D = some o) : upd (c.cut D).H D o = c.H := by
  funext a
  by_cases e : a = D
  · subst e; rw [upd_same, h]
  · rw [upd_ne e, Cf.cut_H e]

theorem comp_imp {fi : If} {vs js : List Nat} {b : Bf} {ft : Tf} {fe : Ef} (hj : ∀ j ∈ js, j ∈ vs) : ∀ σ H Q, tNf K m (comp_ fi vs b ft fe) σ H Q →
    tLc (tIf K m ExE fi) (tGf K js b) (tTf K m ft) (tEf K m fe) vs σ H Q := by
  rintro σ H Q ⟨ow, ρ, env, st, S, o, st', e, q⟩
  obtain ⟨ws, st1, e1, e⟩ := R.bind_ok e
  obtain ⟨ys, st2, e2, e⟩ := R.bind_ok e
  cases e
  refine ⟨ow, ρ, env, st, S, ws, st1, e1, fun J c1 x1 s1 w1 fd hz D hD => ?_⟩
  have E1 := x1.envR S.e
  refine ⟨fun i n H => n = ws.length - i ∧ i ≤ ws.length ∧ ∃ (c : Cf) (sti : Store) (acc : List V) (dn rest : List W), c.H = H ∧ Ext m c1 c st1 sti ∧ c.ow D = some .out ∧ c.H D = some (.lst acc) ∧ RepLC K c dn acc ∧ dn.length ≤ i ∧ StR K c sti ∧ Wf c ∧
    compL vs b ft fe env (ws.drop i) sti = .ok rest st' ∧ ys = dn ++ rest, ⟨ws.length, by simp, Nat.zero_le _, c1.new D .out (.lst []), st1, [], [], ys, rfl, Ext.new w1 hD, updW_same, upd_same, .nil, Nat.le_refl _, Cf.new_st w1 hD s1, Cf.new_wf w1 hD, by rw [List.drop_zero]; exact e2, rfl⟩, ?_⟩
  rintro i n H ⟨rfl, hi, c, sti, acc, dn, rest, rfl, x2, hoD, hHD, rl, hdn, s2, w2, run, hys⟩
  obtain ⟨f1, f2⟩ := fd c ⟨st1, sti, x2.gen⟩ w2
  by_cases hlt : i < ws.length
  · have hget : ws[i]? = some ws[i] := List.getElem?_eq_getElem hlt
    obtain ⟨go, yl⟩ := f1 i _ hget
    refine .inr ⟨go, fun H' => ∃ m', m' < ws.length - i ∧ (m' = ws.length - (i + 1) ∧ i + 1 ≤ ws.length ∧ ∃ (c : Cf) (sti : Store) (acc : List V) (dn rest : List W), c.H = H' ∧ Ext m c1 c st1 sti ∧ c.ow D = some .out ∧ c.H D = some (.lst acc) ∧ RepLC K c dn acc ∧ dn.length ≤ i + 1 ∧ StR K c sti ∧ Wf c ∧
      compL vs b ft fe env (ws.drop (i + 1)) sti = .ok rest st' ∧ ys = dn ++ rest), fun H' h => h, fun x H' hy => ?_⟩
    obtain ⟨c2, rfl, al, rx⟩ := yl x H' hy
    rw [List.drop_eq_getElem_cons hlt] at run
    unfold compL at run
    split at run
    · cases run
    rename_i env1 hb
    obtain ⟨k, st3, e3, run⟩ := R.bind_ok run
    have x12 : Ext m c1 c2 st1 sti := x2.trans (al.ext sti).any
    have keepD : ∀ {c' : Cf} {u : Store}, Ext m c2 c' sti u → c'.ow D = some .out ∧ c'.H D = some (.lst acc) := fun {c' u} y => by
      obtain ⟨p, r⟩ := (al.ext sti).own D .out hoD rfl
      obtain ⟨p', r'⟩ := y.own D .out p rfl
      exact ⟨p', (r'.trans r).trans hHD⟩
    refine ⟨c2.ow, c2.ρ, wipeE env vs, ws[i], (x12.envR E1).wipe vs, rx, env1, hb, fun σ' same E' => ⟨wipe_same same hj, ?_⟩⟩
    refine ⟨c2.ow, c2.ρ, env1, sti, ⟨E', al.str _ s2, al.wf⟩, k, st3, e3, fun c3 x3 s3 w3 => ?_⟩
    have rl3 : RepLC K c3 dn acc := x3.repL ((al.ext sti).repL rl)
    cases k with
    | false =>
      rw [if_neg Bool.false_ne_true] at run
      refine iteF ?_
      obtain ⟨p, r⟩ := keepD x3
      exact ⟨_, by omega, rfl, hlt, c3, st3, acc, dn, rest, rfl, x12.trans x3, p, r, rl3, by omega, s3, w3, run, hys⟩
    | true =>
      rw [if_pos rfl] at run
      refine iteT ?_
      obtain ⟨y, st4, e4, run⟩ := R.bind_ok run
      obtain ⟨yr, st5, e5, run⟩ := R.bind_ok run
      cases run
      refine ⟨c3.ow, c3.ρ, env1, st3, ⟨x3.envR E', s3, w3⟩, y, st4, e4, fun vy c4 x4 s4 w4 r4 => ?_⟩
      obtain ⟨p, r⟩ := keepD (x3.trans x4)
      have hlen : acc.length = dn.length := rl.length.symm
      refine ⟨acc, r, by rw [lim_eq]; show acc.length < 16777216; have : ws.length ≤ 16777216 := hz; omega, _, (by omega : ws.length - (i + 1) < ws.length - i), rfl, hlt, c4.wr D (.lst (acc ++ [vy])), st4, acc ++ [vy], dn ++ [y], yr, rfl, ((x12.trans x3).trans x4).wr hD w1, p, upd_same, ?_, by rw [List.length_append, List.length_singleton]; omega, s4.wrOut p, Cf.wr_wf w4, e5, by rw [hys, List.append_assoc]; rfl⟩
      have fz : ∀ a o, c4.fz a = some o → (c4.wr D (.lst (acc ++ [vy]))).fz a = some o := fz_le (Cf.wr_frz p)
      exact RepL.append (RepL.mono fz (fun _ _ h => h) (x4.repL rl3)) (.cons (r4.mono fz fun _ _ h => h) .nil)
  · have hie : i = ws.length := by omega
    subst hie
    refine .inl ⟨f2 _ (Nat.le_refl _), ?_⟩
    rw [List.drop_length] at run
    cases run
    rw [List.append_nil] at hys
    subst hys
    have fin := q acc (c.cut D) D ?_ ?_ ?_ ?_ ?_ ?_
    · rw [Cf.cut_upd hHD] at fin; exact fin
    · have ne1 : ∀ a u, c1.H a = some u → a ≠ D := fun a u e => ne_of_none e hD
      have y : Ext m c1 (c.cut D) st1 st' := by
        refine ⟨fun a u h e => ?_, fun a p h hp => ?_, x2.loc, fun hm => ?_⟩
        · obtain ⟨p, r⟩ := x2.frz a u h e
          exact ⟨by rw [Cf.cut_ow (ne1 a u e)]; exact p, by rw [Cf.cut_H (ne1 a u e)]; exact r⟩
        · obtain ⟨u, e⟩ := w1 a p h
          obtain ⟨r, t⟩ := x2.own a p h hp
          exact ⟨by rw [Cf.cut_ow (ne1 a u e)]; exact r, by rw [Cf.cut_H (ne1 a u e)]; exact t⟩
        · obtain ⟨e, h⟩ := x2.still hm
          refine ⟨e, fun a u z => ?_⟩
          obtain ⟨p, r⟩ := h a u z
          exact ⟨by rw [Cf.cut_ow (ne1 a u z)]; exact p, by rw [Cf.cut_H (ne1 a u z)]; exact r⟩
      exact x1.trans y
    · have hne : ∀ a p, c.ow a = some p → p ≠ .out → a ≠ D := fun a p h hp z => by rw [z, hoD] at h; cases h; exact hp rfl
      refine s2.keep (fun a u h e => ?_) rfl (fun a n h => ?_) fun a n f h => ?_
      · have ne : a ≠ D := fun z => by rw [z, hoD] at h; cases h
        exact ⟨by rw [Cf.cut_ow ne]; exact h, by rw [Cf.cut_H ne]; exact e⟩
      · have ne := hne a _ h (fun z => by cases z)
        exact ⟨by rw [Cf.cut_ow ne]; exact h, Cf.cut_H ne⟩
      · have ne := hne a _ h (fun z => by cases z)
        exact ⟨by rw [Cf.cut_ow ne]; exact h, Cf.cut_H ne⟩
    · intro a p h
      have ne : a ≠ D := fun z => by
        have h : updW c.ow D none a = some p := h
        rw [z, updW_same] at h; cases h
      rw [Cf.cut_ow ne] at h
      obtain ⟨u, hu⟩ := w2 a p h
      exact ⟨u, by rw [Cf.cut_H ne]; exact hu⟩
    · show (if D = D then none else c.H D) = none
      rw [if_pos rfl]
    · show RepL K (c.cut D).fz c.ρ _ _
      rw [Cf.cut_fz hoD]
      exact rl
    · exact Nat.le_trans hdn hz
end
section
variable {X : Cx} {m : Bool} {elt tg iter : Expr} {ifs : List Expr} {scope : Scope} {own : List (Str × Nat)} {pos : Pos} {fi : If} {js : List Nat} {b : Bf} {ft : Tf} {fe : Ef}
theorem IV.e (h : IV m ExS X tg iter fi) : IV m ExE X tg iter fi := by
  refine ⟨PI.imp' h.pi ?_⟩
  rintro σ H Rr ⟨ow, ρ, env, st, S, ws, st', e, q⟩
  exact ⟨ow, ρ, env, st, S, ws, st', e, fun J c' x s wf fd z => q J c' x s wf fd.e z⟩
theorem n_comp (hc : X.calm = true) (hN : X.N.Nodup) (hi : IV m ExE X tg iter fi) (ok : BlkOk X.N X.env.scope scope own)
    (hg : ∀ (s : Shared) (H : Hp) (C : Addr) (cl : List (Str × Addr)) (fp : List Addr), GV (X.blk s H scope (compEnvC scope cl C X.env) fp) tg js b) (ht : ∀ (s : Shared) (H : Hp) (C : Addr) (cl : List (Str × Addr)) (fp : List Addr), TsV m (X.blk s H scope (compEnvC scope cl C X.env) fp) ifs ft)
    (he : ∀ (s : Shared) (H : Hp) (C : Addr) (cl : List (Str × Addr)) (fp : List Addr), EV m (X.blk s H scope (compEnvC scope cl C X.env) fp) elt fe) (hs : ∀ x, foldedSetIterable iter X.env x = pure x := by intro _; rfl) (hj : ∀ j ∈ js, j ∈ own.map (·.2) := by decide) :
    NV m X (.ListComp elt [⟨tg, iter, ifs, 0⟩] scope pos) (comp_ fi (own.map (·.2)) b ft fe) :=
  ⟨(pe_lc hc hN hi.pi ok (fun s H C cl fp => (hg s H C cl fp).pg) (fun s H C cl fp => (ht s H C cl fp).pts) (fun s H C cl fp => (he s H C cl fp).pe) hs).imp (comp_imp hj)⟩
end
end Cr
/-! Cr10: statements. -/
namespace Cr
open PySem PySem.Spec PyProof.Rows L2

def skip_ : Sf := fun env st => .ok (.nx env) st
def seq_ (f g : Sf) : Sf := fun env st => (f env st).bind fun fl st1 => match fl with
  | .nx env1 => g env1 st1
  | .rt w => .ok (.rt w) st1
def asg_ (i : Nat) (f : Ef) : Sf := fun env st => (f env st).bind fun w st1 => .ok (.nx (env.set i (some (.w w)))) st1
/-- the slot's own -/
def O.isNew : O → Bool
  | .ol _ => true
  | .od _ => true
  | .ot _ => true
  | _ => false
def own_ (i : Nat) (f : Nf) : Sf := fun env st => (f env st).bind fun o st1 => if o.isNew then .ok (.nx (env.set i (some o))) st1 else .no
def asgG_ (b : Bf) (f : Ef) : Sf := fun env st => (f env st).bind fun w st1 => match b w env with
  | some env1 => .ok (.nx env1) st1
  | none => .no
def par_ (is : List Nat) (f : Af) : Sf := fun env st => (f env st).bind fun ws st1 => match is, ws with
  | [i, j], [u, v] => .ok (.nx ((env.set i (some (.w u))).set j (some (.w v)))) st1
  | [i, j, k], [u, v, w] => .ok (.nx (((env.set i (some (.w u))).set j (some (.w v))).set k (some (.w w)))) st1
  | _, _ => .no
def drop_ (f : Ef) : Sf := fun env st => (f env st).bind fun _ st1 => .ok (.nx env) st1
def ret_ (f : Ef) : Sf := fun env st => (f env st).bind fun w st1 => .ok (.rt w) st1
def retN_ : Sf := fun _ st => .ok (.rt .non) st
def if_ (t : Tf) (f g : Sf) : Sf := fun env st => (t env st).bind fun b st1 => if b = true then f env st1 else g env st1
def never_ : Sf := fun _ _ => .no
def forL (b : Bf) (f : Sf) : List W → Sf
  | [], env, st => .ok (.nx env) st
  | w :: ws, env, st => match b w env with
    | none => .no
    | some env1 => (f env1 st).bind fun fl st1 => match fl with
      | .nx env2 => forL b f ws env2 st1
      | .rt v => .ok (.rt v) st1
def for_ (fi : If) (b : Bf) (f : Sf) : Sf := fun env st => (fi env st).bind fun ws st1 => forL b f ws env st1
inductive WhileR (t : Tf) (f : Sf) : Nat → Env → Store → Fl → Store → Prop
  | stop {env : Env} {st st1 : Store} : t env st = .ok false st1 → WhileR t f 0 env st (.nx env) st1
  | ret {env : Env} {st st1 st2 : Store} {w : W} : t env st = .ok true st1 → f env st1 = .ok (.rt w) st2 → WhileR t f 0 env st (.rt w) st2
  | go {n : Nat} {env env1 : Env} {st st1 st2 st' : Store} {fl : Fl} : t env st = .ok true st1 → f env st1 = .ok (.nx env1) st2 → WhileR t f n env1 st2 fl st' → WhileR t f (n + 1) env st fl st'
open Classical in
noncomputable def whl_ (t : Tf) (f : Sf) : Sf := fun env st => if h : ∃ p : Nat × Fl × Store, WhileR t f p.1 env st p.2.1 p.2.2 then .ok h.choose.2.1 h.choose.2.2 else .no
theorem WhileR.det {t : Tf} {f : Sf} : ∀ {n m : Nat} {env : Env} {st st' st'' : Store} {fl fl' : Fl}, WhileR t f n env st fl st' → WhileR t f m env st fl' st'' → fl = fl' ∧ st' = st''
  | _, _, _, _, _, _, _, _, .stop a, .stop b => by rw [a] at b; cases b; exact ⟨rfl, rfl⟩
  | _, _, _, _, _, _, _, _, .stop a, .ret b _ => by rw [a] at b; cases b
  | _, _, _, _, _, _, _, _, .stop a, .go b _ _ => by rw [a] at b; cases b
  | _, _, _, _, _, _, _, _, .ret a _, .stop b => by rw [a] at b; cases b
  | _, _, _, _, _, _, _, _, .ret a a', .ret b b' => by rw [a] at b; cases b; rw [a'] at b'; cases b'; exact ⟨rfl, rfl⟩
  | _, _, _, _, _, _, _, _, .ret a a', .go b b' _ => by rw [a] at b; cases b; rw [a'] at b'; cases b'
  | _, _, _, _, _, _, _, _, .go a _ _, .stop b => by rw [a] at b; cases b
  | _, _, _, _, _, _, _, _, .go a a' _, .ret b b' => by rw [a] at b; cases b; rw [a'] at b'; cases b'
  | _, _, _, _, _, _, _, _, .go a a' r, .go b b' r' => by rw [a] at b; cases b; rw [a'] at b'; cases b'; exact WhileR.det r r'
theorem whl_of {t : Tf} {f : Sf} {n : Nat} {env : Env} {st st' : Store} {fl : Fl} (h : WhileR t f n env st fl st') : whl_ t f env st = .ok fl st' := by
  have hx : ∃ p : Nat × Fl × Store, WhileR t f p.1 env st p.2.1 p.2.2 := ⟨(n, fl, st'), h⟩
  unfold whl_
  rw [dif_pos hx]
  obtain ⟨e1, e2⟩ := hx.choose_spec.det h
  rw [e1, e2]
theorem of_whl {t : Tf} {f : Sf} {env : Env} {st st' : Store} {fl : Fl} (h : whl_ t f env st = .ok fl st') : ∃ n, WhileR t f n env st fl st' := by
  unfold whl_ at h
  split at h
  · rename_i hx
    cases h
    exact ⟨_, hx.choose_spec⟩
  · cases h
theorem whl_stop {t : Tf} {f : Sf} {env : Env} {st st1 : Store} (h : t env st = .ok false st1) : whl_ t f env st = .ok (.nx env) st1 := whl_of (.stop h)
theorem whl_ret {t : Tf} {f : Sf} {env : Env} {st st1 st2 : Store} {w : W} (h : t env st = .ok true st1) (h' : f env st1 = .ok (.rt w) st2) : whl_ t f env st = .ok (.rt w) st2 := whl_of (.ret h h')
theorem whl_go {t : Tf} {f : Sf} {env env1 : Env} {st st1 st2 st' : Store} {fl : Fl} (h : t env st = .ok true st1) (h' : f env st1 = .ok (.nx env1) st2) (r : whl_ t f env1 st2 = .ok fl st') : whl_ t f env st = .ok fl st' := by
  obtain ⟨n, r⟩ := of_whl r
  exact whl_of (.go h h' r)

section
variable {K : PySem.W.Frag} {m : Bool}
theorem Sm.exs {c c1 : Cf} {env : Env} {st st1 : Store} {σ : L2.St} (S : Sm K c env st σ) (x : Ext m c c1 st st1) (s : StR K c1 st1) (wf : Wf c1) : Sm K c1 env st1 σ := ⟨x.envR S.e, s, wf⟩
theorem Sm.put {c : Cf} {env : Env} {st : Store} {σ : L2.St} {i : Nat} {w : W} {v : V} (S : Sm K c env st σ) (r : RepC K c w v) : Sm K c (env.set i (some (.w w))) st (σ.set i (some v)) :=
  ⟨S.e.put ⟨.w r, trivial⟩ (fun _ _ h h' => ⟨h, h'⟩) (fun _ _ h => h) fun _ _ _ h => ⟨h, rfl⟩, S.s, S.wf⟩
theorem tS_mono {f : Sf} {D : Ends} {ow : Ow} {H : Hp} {ρ : List Addr} {env : Env} {st : Store} {σ : L2.St} (S : Sm K ⟨ow, H, ρ⟩ env st σ) {fl : Fl} {st' : Store} (e : f env st = .ok fl st')
    (hn : ∀ env' σ' c', fl = .nx env' → Sm K c' env' st' σ' → ExS ⟨ow, H, ρ⟩ c' → D.nx σ' c'.H) (hr : ∀ w v c', fl = .rt w → StR K c' st' → Wf c' → RepC K c' w v → ExS ⟨ow, H, ρ⟩ c' → D.rt v c'.H) : tSf K f D σ H := by
  refine ⟨ow, ρ, env, st, S, fl, st', e, ?_⟩
  cases fl with
  | nx env' => exact fun σ' c' => hn env' σ' c' rfl
  | rt w => exact fun v c' => hr w v c' rfl
/-- what a statement's reading gives, taken apart -/
theorem tS_use {f : Sf} {D : Ends} {H : Hp} {σ : L2.St} (h : tSf K f D σ H) : ∃ ow ρ env st fl st', Sm K ⟨ow, H, ρ⟩ env st σ ∧ f env st = .ok fl st' ∧
    (∀ env' σ' c', fl = .nx env' → Sm K c' env' st' σ' → ExS ⟨ow, H, ρ⟩ c' → D.nx σ' c'.H) ∧ (∀ w v c', fl = .rt w → StR K c' st' → Wf c' → RepC K c' w v → ExS ⟨ow, H, ρ⟩ c' → D.rt v c'.H) := by
  obtain ⟨ow, ρ, env, st, S, fl, st', e, q⟩ := h
  refine ⟨ow, ρ, env, st, fl, st', S, e, ?_⟩
  cases fl with
  | nx env' => exact ⟨(fun env'' σ' c' z => by cases z; exact q σ' c'), (fun _ _ _ z => nomatch z)⟩
  | rt w => exact ⟨(fun _ _ _ z => nomatch z), (fun w' v c' z => by cases z; exact q v c')⟩
end

section
variable {X : Cx} {m : Bool} {s : Stmt} {ss : List Stmt} {e a b : Expr} {f g : Sf} {fe : Ef} {pos : Pos}
theorem ss_nil : SSV X [] skip_ := by
  refine ⟨PSs.imp pss_nil ?_⟩
  intro D σ H h
  obtain ⟨ow, ρ, env, st, fl, st', S, e, hn, hr⟩ := tS_use h
  cases e
  exact hn _ σ ⟨ow, H, ρ⟩ rfl S (ExS.refl _)
theorem ss_cons (h : SV X s f) (hr : SSV X ss g) : SSV X (s :: ss) (seq_ f g) := by
  refine ⟨(pss_cons h.ps hr.pss).imp ?_⟩
  intro D σ H h
  obtain ⟨ow, ρ, env, st, fl, st', S, e, hn, hr⟩ := tS_use h
  obtain ⟨fl1, st1, e1, e2⟩ := R.bind_ok e
  refine tS_mono S e1 (fun env' σ' c' z S' x => ?_) fun w v c' z s wf r x => ?_
  · subst z
    exact tS_mono (D := D) S' e2 (fun env2 σ2 c2 z S2 x2 => hn env2 σ2 c2 z S2 (x.trans x2)) fun w v c2 z s wf r x2 => hr w v c2 z s wf r (x.trans x2)
  · subst z
    cases e2
    exact hr w v c' rfl s wf r x
theorem ss_one (h : SV X s f) : SSV X [s] f := ⟨pss_one h.ps⟩
theorem s_never : SV X s never_ := ⟨ps_never.imp fun D σ H h => by
  obtain ⟨_, _, _, _, _, _, _, e, _⟩ := tS_use h
  cases e⟩
theorem ss_never : SSV X ss never_ := ⟨pss_never.imp fun D σ H h => by
  obtain ⟨_, _, _, _, _, _, _, e, _⟩ := tS_use h
  cases e⟩
theorem s_pass : SV X (.Pass pos) skip_ := by
  refine ⟨PS.imp ps_pass ?_⟩
  intro D σ H h
  obtain ⟨ow, ρ, env, st, fl, st', S, e, hn, hr⟩ := tS_use h
  cases e
  exact hn _ σ ⟨ow, H, ρ⟩ rfl S (ExS.refl _)
/-- some slots are forgotten behind a block -/
def endk_ (ks : List Nat) (f : Sf) : Sf := fun env st => (f env st).bind fun fl st1 => match fl with
  | .nx env1 => .ok (.nx (wipeE env1 ks)) st1
  | .rt w => .ok (.rt w) st1
theorem wipe_sub {K : PySem.W.Frag} {c : Cf} {env : Env} {st : Store} {σ : L2.St} (S : Sm K c env st σ) (ks : List Nat) : Sm K c (wipeE env ks) st σ :=
  ⟨S.e.sub (wipeE_length ..) fun _ _ h => (wipeE_some h).1, S.s, S.wf⟩
theorem endk_imp {K : PySem.W.Frag} {ks : List Nat} : ∀ D σ H, tSf K (endk_ ks f) D σ H → tSf K f D σ H := by
  intro D σ H h
  obtain ⟨ow, ρ, env, st, fl, st', S, e, hn, hr⟩ := tS_use h
  obtain ⟨fl1, st1, e1, e2⟩ := R.bind_ok e
  refine tS_mono S e1 (fun env' σ' c' z S' x => ?_) fun w v c' z s wf r x => ?_
  · subst z
    cases e2
    exact hn _ σ' c' rfl (wipe_sub S' ks) x
  · subst z
    cases e2
    exact hr w v c' rfl s wf r x
theorem ss_endk (ks : List Nat) (h : SSV X ss f) : SSV X ss (endk_ ks f) := ⟨h.pss.imp endk_imp⟩
theorem s_endk (ks : List Nat) (h : SV X s f) : SV X s (endk_ ks f) := ⟨h.ps.imp endk_imp⟩

/-! ### assignments -/
theorem asg_imp {K : PySem.W.Frag} {i : Nat} {te : TE} (h : ∀ σ H Q, tEf K m fe σ H Q → te σ H Q) : ∀ D σ H, tSf K (asg_ i fe) D σ H → tAsg te (gName i) D σ H := by
  intro D σ H h'
  obtain ⟨ow, ρ, env, st, fl, st', S, e, hn, hr⟩ := tS_use h'
  obtain ⟨w, st1, e1, e2⟩ := R.bind_ok e
  cases e2
  refine h _ _ _ ⟨ow, ρ, env, st, S, w, _, e1, fun v c' x s wf r => ?_⟩
  exact hn _ _ c' rfl ((S.exs x s wf).put r) x.s
theorem s_asg {i : Nat} {x : Str} {pos' : Pos} (hN : X.N.Nodup) (hi : X.N[i]? = some x) (hx : Loc X.env.scope x) (he : EV m X e fe) (hs : swapsWith e (some (.Name x pos')) pos.line X.env = pure false := by rfl)
    (hf : X.fn x = true ∨ X.env.scope.names.lookup x = some .local := by first | exact .inl rfl | exact .inr rfl | assumption) : SV X (.Assign [.Name x pos'] e pos) (asg_ i fe) :=
  ⟨(ps_set hN hi hx he.pe hs hf).imp (asg_imp (m := m) fun _ _ _ h => h)⟩
theorem own_imp {K : PySem.W.Frag} {i : Nat} {fn : Nf} {te : TE} (h : ∀ σ H Q, tNf K m fn σ H Q → te σ H Q) : ∀ D σ H, tSf K (own_ i fn) D σ H → tAsg te (gName i) D σ H := by
  intro D σ H h'
  obtain ⟨ow, ρ, env, st, fl, st', S, e, hn, hr⟩ := tS_use h'
  obtain ⟨o, st1, e1, e2⟩ := R.bind_ok e
  split at e2 <;> cases e2
  rename_i hnew
  have go : ∀ (c1 : Cf) (p : Addr) (u : HO), Ext m ⟨ow, H, ρ⟩ c1 st st' → StR K c1 st' → Wf c1 → c1.H p = none → (∀ c2, Frz c1 c2 → c2.ρ = c1.ρ → c2.H = upd c1.H p u → c2.ow p = some (.env i) → Pk K c2 o (.ref p)) → (∀ c2, c2.ow p = some (.env i) → Own c2 (.env i) o (.ref p)) → gName i (.ref p) σ (upd c1.H p u) D.nx := by
    intro c1 p u x s wf hp pk ow'
    have E := (S.exs x s wf).e
    refine hn _ _ (c1.new p (.env i) u) rfl ⟨E.put ⟨pk _ (Cf.new_frz wf hp) rfl rfl updW_same, ow' _ updW_same⟩ (Cf.new_frz wf hp) (fun _ _ h => h) (fun j a _ h => Cf.new_own wf hp h), Cf.new_st wf hp s, Cf.new_wf wf hp⟩ (x.s.trans (Cf.new_exs wf hp))
  refine h _ _ _ ⟨ow, ρ, env, st, S, o, _, e1, ?_⟩
  cases o with
  | w v => cases hnew
  | ol ws => exact fun vs c1 p x s wf hp r z => go c1 p _ x s wf hp (fun c2 fz er eH ew => .ol (by rw [eH]; exact upd_same) (r.mono (fz_le fz) fun n a q => by rw [er]; exact q) z) fun c2 ew => ⟨p, rfl, ew⟩
  | od ws => exact fun vs c1 p x s wf hp r z => go c1 p _ x s wf hp (fun c2 fz er eH ew => .od (by rw [eH]; exact upd_same) (r.mono (fz_le fz) fun n a q => by rw [er]; exact q) z) fun c2 ew => ⟨p, rfl, ew⟩
  | ot ws => exact fun vs c1 p x s wf hp r z => go c1 p _ x s wf hp (fun c2 fz er eH ew => .ot (by rw [eH]; exact upd_same) (r.mono (fz_le fz) fun n a q => by rw [er]; exact q) z) fun c2 ew => ⟨p, rfl, ew⟩
  | oll ws => cases hnew
theorem s_own {i : Nat} {x : Str} {pos' : Pos} {fn : Nf} (hN : X.N.Nodup) (hi : X.N[i]? = some x) (hx : Loc X.env.scope x) (he : NV m X e fn) (hs : swapsWith e (some (.Name x pos')) pos.line X.env = pure false := by rfl)
    (hf : X.fn x = true ∨ X.env.scope.names.lookup x = some .local := by first | exact .inl rfl | exact .inr rfl | assumption) : SV X (.Assign [.Name x pos'] e pos) (own_ i fn) :=
  ⟨(ps_set hN hi hx he.pe hs hf).imp (own_imp (m := m) fun _ _ _ h => h)⟩
theorem frzL_imp {K : PySem.W.Frag} {fn : Nf} {te : TE} (h : ∀ σ H Q, tNf K m fn σ H Q → te σ H Q) : ∀ σ H Q, tEf K m (frzL_ fn) σ H Q → te σ H Q := by
  rintro σ H Q ⟨ow, ρ, env, st, S, w, st', e, q⟩
  obtain ⟨o, st1, e1, e⟩ := R.bind_ok e
  refine h _ _ _ ⟨ow, ρ, env, st, S, o, st1, e1, ?_⟩
  split at e <;> cases e
  intro vs c1 p x1 s1 w1 hp r z
  obtain ⟨x4, s4, w4, f4⟩ := alloc K _ (.lst vs) w1 hp
  exact q _ _ (x1.trans x4.any) (s4 s1) w4 (.lst f4 (x4.repL r) z)
section
variable {elt tg iter : Expr} {ifs : List Expr} {scope : Scope} {own : List (Str × Nat)} {fi : If} {js : List Nat} {bb : Bf} {ft : Tf} {fel : Ef} {spos py : Pos} {i : Nat} {y : Str}
/-- name = [..], the name a local, on one line -/
theorem s_ownC (hc : X.calm = true) (hN : X.N.Nodup) (hy : X.N[i]? = some y) (hyl : X.env.scope.names.lookup y = some .local) (hsw : swapsWith (.ListComp elt [⟨tg, iter, ifs, 0⟩] scope pos) (some (.Name y py)) spos.line X.env = pure true) (hi : IV m ExE X tg iter fi) (ok : BlkOk X.N X.env.scope scope own)
    (hg : ∀ (s : Shared) (H : Hp) (C : Addr) (cl : List (Str × Addr)) (fp : List Addr), GV (X.blk s H scope (compEnvC scope cl C X.env) fp) tg js bb) (ht : ∀ (s : Shared) (H : Hp) (C : Addr) (cl : List (Str × Addr)) (fp : List Addr), TsV m (X.blk s H scope (compEnvC scope cl C X.env) fp) ifs ft)
    (he : ∀ (s : Shared) (H : Hp) (C : Addr) (cl : List (Str × Addr)) (fp : List Addr), EV m (X.blk s H scope (compEnvC scope cl C X.env) fp) elt fel) (hs : ∀ x, foldedSetIterable iter X.env x = pure x := by intro _; rfl) (hj : ∀ j ∈ js, j ∈ own.map (·.2) := by decide) :
    SV X (.Assign [.Name y py] (.ListComp elt [⟨tg, iter, ifs, 0⟩] scope pos) spos) (own_ i (comp_ fi (own.map (·.2)) bb ft fel)) :=
  ⟨(ps_setLc hc hN hy hyl hsw hi.pi ok (fun s H C cl fp => (hg s H C cl fp).pg) (fun s H C cl fp => (ht s H C cl fp).pts) (fun s H C cl fp => (he s H C cl fp).pe) hs).imp (own_imp (m := m) (comp_imp hj))⟩
theorem s_asgC (hc : X.calm = true) (hN : X.N.Nodup) (hy : X.N[i]? = some y) (hyl : X.env.scope.names.lookup y = some .local) (hsw : swapsWith (.ListComp elt [⟨tg, iter, ifs, 0⟩] scope pos) (some (.Name y py)) spos.line X.env = pure true) (hi : IV m ExE X tg iter fi) (ok : BlkOk X.N X.env.scope scope own)
    (hg : ∀ (s : Shared) (H : Hp) (C : Addr) (cl : List (Str × Addr)) (fp : List Addr), GV (X.blk s H scope (compEnvC scope cl C X.env) fp) tg js bb) (ht : ∀ (s : Shared) (H : Hp) (C : Addr) (cl : List (Str × Addr)) (fp : List Addr), TsV m (X.blk s H scope (compEnvC scope cl C X.env) fp) ifs ft)
    (he : ∀ (s : Shared) (H : Hp) (C : Addr) (cl : List (Str × Addr)) (fp : List Addr), EV m (X.blk s H scope (compEnvC scope cl C X.env) fp) elt fel) (hs : ∀ x, foldedSetIterable iter X.env x = pure x := by intro _; rfl) (hj : ∀ j ∈ js, j ∈ own.map (·.2) := by decide) :
    SV X (.Assign [.Name y py] (.ListComp elt [⟨tg, iter, ifs, 0⟩] scope pos) spos) (asg_ i (frzL_ (comp_ fi (own.map (·.2)) bb ft fel))) :=
  ⟨(ps_setLc hc hN hy hyl hsw hi.pi ok (fun s H C cl fp => (hg s H C cl fp).pg) (fun s H C cl fp => (ht s H C cl fp).pts) (fun s H C cl fp => (he s H C cl fp).pe) hs).imp (asg_imp (m := m) (frzL_imp (comp_imp hj)))⟩
end
/-- a, b = e -/
theorem s_asgG {tg : Expr} {js : List Nat} {bb : Bf} (he : EV m X e fe) (hg : GV X tg js bb) (hs : swapsWithSole [tg] e pos.line X.env = pure false := by rfl) (hw : swappedStores [tg] e X.env = pure none := by rfl)
    (h1 : (assignEach [tg] X.env).map (·.2) = [assign tg X.env] := by rfl) : SV X (.Assign [tg] e pos) (asgG_ bb fe) := by
  refine ⟨(ps_asg he.pe hg.pg hs hw h1).imp ?_⟩
  intro D σ H h'
  obtain ⟨ow, ρ, env, st, fl, st', S, e, hn, hr⟩ := tS_use h'
  obtain ⟨w, st1, e1, e2⟩ := R.bind_ok e
  refine ⟨ow, ρ, env, st, S, w, _, e1, fun v c' x s wf r => ?_⟩
  split at e2 <;> cases e2
  rename_i env1 hb
  exact ⟨c'.ow, c'.ρ, env, w, (S.exs x s wf).e, r, env1, hb, fun σ' _ E => hn _ _ c' rfl ⟨E, s, wf⟩ x.s⟩
theorem s_par2 {i j : Nat} {x y : Str} {fr : Af} {px py pt : Pos} {kt k2 : Nat} {pt2 : Pos} (hc : X.calm = true) (hN : X.N.Nodup) (hi : X.N[i]? = some x) (hj : X.N[j]? = some y) (hij : i ≠ j)
    (hx : X.env.scope.names.lookup x = some .local) (hy : X.env.scope.names.lookup y = some .local) (ha : AV m X [a, b] fr)
    (hw : swappedStores [.Tuple [.Name x px, .Name y py] kt pt] (.Tuple [a, b] k2 pt2) X.env = pure (some [x, y]))
    (hs : swapsWithSole [.Tuple [.Name x px, .Name y py] kt pt] (.Tuple [a, b] k2 pt2) pos.line X.env = pure false := by rfl) :
    SV X (.Assign [.Tuple [.Name x px, .Name y py] kt pt] (.Tuple [a, b] k2 pt2) pos) (par_ [i, j] fr) := by
  refine ⟨(ps_par hc hN hi hj hij hx hy ha.pa hw hs).imp ?_⟩
  intro D σ H h'
  obtain ⟨ow, ρ, env, st, fl, st', S, e, hn, hr⟩ := tS_use h'
  obtain ⟨ws, st1, e1, e2⟩ := R.bind_ok e
  refine ⟨ow, ρ, env, st, S, ws, _, e1, fun vs c' x s wf r => ?_⟩
  split at e2
  · rename_i h1
    simp only [List.cons.injEq, and_true] at h1
    obtain ⟨rfl, rfl⟩ := h1
    cases e2
    cases r with
    | cons r1 r =>
      cases r with
      | cons r2 r =>
        cases r
        exact ⟨_, _, rfl, hn _ _ c' rfl (((S.exs x s wf).put r1).put r2) x.s⟩
  · rename_i h1
    simp at h1
  · cases e2
theorem s_par3 {i j k : Nat} {x y z : Str} {d : Expr} {fr : Af} {px py pz pt : Pos} {kt k2 : Nat} {pt2 : Pos} (hc : X.calm = true) (hN : X.N.Nodup) (hi : X.N[i]? = some x) (hj : X.N[j]? = some y) (hk : X.N[k]? = some z) (hij : i ≠ j) (hik : i ≠ k) (hjk : j ≠ k)
    (hx : X.env.scope.names.lookup x = some .local) (hy : X.env.scope.names.lookup y = some .local) (hz : X.env.scope.names.lookup z = some .local) (ha : AV m X [a, b, d] fr)
    (hw : swappedStores [.Tuple [.Name x px, .Name y py, .Name z pz] kt pt] (.Tuple [a, b, d] k2 pt2) X.env = pure (some [x, y, z]))
    (hs : swapsWithSole [.Tuple [.Name x px, .Name y py, .Name z pz] kt pt] (.Tuple [a, b, d] k2 pt2) pos.line X.env = pure false := by rfl) :
    SV X (.Assign [.Tuple [.Name x px, .Name y py, .Name z pz] kt pt] (.Tuple [a, b, d] k2 pt2) pos) (par_ [i, j, k] fr) := by
  refine ⟨(ps_par3 hc hN hi hj hk hij hik hjk hx hy hz ha.pa hw hs).imp ?_⟩
  intro D σ H h'
  obtain ⟨ow, ρ, env, st, fl, st', S, e, hn, hr⟩ := tS_use h'
  obtain ⟨ws, st1, e1, e2⟩ := R.bind_ok e
  refine ⟨ow, ρ, env, st, S, ws, _, e1, fun vs c' x s wf r => ?_⟩
  split at e2
  · rename_i h1
    simp at h1
  · rename_i h1
    simp only [List.cons.injEq, and_true] at h1
    obtain ⟨rfl, rfl, rfl⟩ := h1
    cases e2
    cases r with
    | cons r1 r =>
      cases r with
      | cons r2 r =>
        cases r with
        | cons r3 r =>
          cases r
          exact ⟨_, _, _, rfl, hn _ _ c' rfl ((((S.exs x s wf).put r1).put r2).put r3) x.s⟩
  · cases e2
theorem s_drop (he : EV m X e fe) (hs : swapsWith e none pos.line X.env = pure false := by rfl) : SV X (.Expr e pos) (drop_ fe) := by
  refine ⟨(ps_expr he.pe hs).imp ?_⟩
  intro D σ H h'
  obtain ⟨ow, ρ, env, st, fl, st', S, e, hn, hr⟩ := tS_use h'
  obtain ⟨w, st1, e1, e2⟩ := R.bind_ok e
  cases e2
  exact ⟨ow, ρ, env, st, S, w, _, e1, fun v c' x s wf r => hn _ _ c' rfl (S.exs x s wf) x.s⟩
theorem s_ret (he : EV m X e fe) : SV X (.Return (some e) pos) (ret_ fe) := by
  refine ⟨(ps_ret he.pe).imp ?_⟩
  intro D σ H h'
  obtain ⟨ow, ρ, env, st, fl, st', S, e, hn, hr⟩ := tS_use h'
  obtain ⟨w, st1, e1, e2⟩ := R.bind_ok e
  cases e2
  exact ⟨ow, ρ, env, st, S, w, _, e1, fun v c' x s wf r => hr _ _ c' rfl s wf r x.s⟩
theorem s_retN : SV X (.Return none pos) retN_ := by
  refine ⟨PS.imp ps_retN ?_⟩
  intro D σ H h'
  obtain ⟨ow, ρ, env, st, fl, st', S, e, hn, hr⟩ := tS_use h'
  cases e
  exact hr _ _ ⟨ow, H, ρ⟩ rfl S.s S.wf .non (ExS.refl _)
theorem s_if {t : Expr} {b1 b2 : List Stmt} {ft : Tf} (ht : TV m X t ft) (h1 : SSV X b1 f) (h2 : SSV X b2 g) : SV X (.If t b1 b2 pos) (if_ ft f g) := by
  refine ⟨(ps_if ht.pt h1.pss h2.pss).imp ?_⟩
  intro D σ H h'
  obtain ⟨ow, ρ, env, st, fl, st', S, e, hn, hr⟩ := tS_use h'
  obtain ⟨k, st1, e1, e2⟩ := R.bind_ok e
  refine ⟨ow, ρ, env, st, S, k, st1, e1, fun c' x s wf => ?_⟩
  cases k with
  | true =>
    rw [if_pos rfl] at e2
    refine iteT ?_
    exact tS_mono (S.exs x s wf) e2 (fun env' σ' c2 z S' y => hn env' σ' c2 z S' (x.s.trans y)) fun w v c2 z s wf r y => hr w v c2 z s wf r (x.s.trans y)
  | false =>
    rw [if_neg Bool.false_ne_true] at e2
    refine iteF ?_
    exact tS_mono (S.exs x s wf) e2 (fun env' σ' c2 z S' y => hn env' σ' c2 z S' (x.s.trans y)) fun w v c2 z s wf r y => hr w v c2 z s wf r (x.s.trans y)

/-! ### loops -/
theorem s_for {tg iter : Expr} {body : List Stmt} {js : List Nat} {bb : Bf} {fi : If} (hp : PassesOwn (model X.prog X.w) X.A X.env X.xe) (hc : X.calm = true) (hi : IV m ExS X tg iter fi) (hg : GV X tg js bb) (hb : SSV X body f)
    (hs : ∀ x, foldedSetIterable iter X.env x = pure x := by intro _; rfl) : SV X (.For tg iter body [] pos) (for_ fi bb f) := by
  refine ⟨(ps_for hp hc hi.pi hg.pg hb.pss hs).imp ?_⟩
  intro D σ H h'
  obtain ⟨ow, ρ, env, st, fl, st', S, e, hn, hr⟩ := tS_use h'
  obtain ⟨ws, st1, e1, e2⟩ := R.bind_ok e
  refine ⟨ow, ρ, env, st, S, ws, st1, e1, fun J c1 x1 s1 w1 fd hz => ?_⟩
  refine ⟨fun i n σ H => n = ws.length - i ∧ i ≤ ws.length ∧ ∃ (c : Cf) (env : Env) (st : Store), c.H = H ∧ Sm X.K c env st σ ∧ ExS c1 c ∧ forL bb f (ws.drop i) env st = .ok fl st', ⟨ws.length, by simp, Nat.zero_le _, c1, env, st1, rfl, S.exs x1 s1 w1, ExS.refl _, by rw [List.drop_zero]; exact e2⟩, ?_⟩
  rintro i n σ H ⟨rfl, hi, c, env1, sti, rfl, Si, xi, run⟩
  obtain ⟨f1, f2⟩ := fd c xi Si.wf
  by_cases hlt : i < ws.length
  · have hget : ws[i]? = some ws[i] := List.getElem?_eq_getElem hlt
    obtain ⟨go, yl⟩ := f1 i _ hget
    refine .inr ⟨go, fun σ' H' => ∃ m', m' < ws.length - i ∧ (m' = ws.length - (i + 1) ∧ i + 1 ≤ ws.length ∧ ∃ (c : Cf) (env : Env) (st : Store), c.H = H' ∧ Sm X.K c env st σ' ∧ ExS c1 c ∧ forL bb f (ws.drop (i + 1)) env st = .ok fl st'), fun σ' H' h => h, fun x H' hy => ?_⟩
    obtain ⟨c2, rfl, al, rx⟩ := yl x H' hy
    rw [List.drop_eq_getElem_cons hlt] at run
    unfold forL at run
    split at run
    · cases run
    rename_i env2 hbb
    obtain ⟨fl3, st3, e3, run⟩ := R.bind_ok run
    have x2 : ExS c1 c2 := xi.trans (al.ext sti).s
    refine ⟨c2.ow, c2.ρ, env1, ws[i], (al.ext sti).envR Si.e, rx, env2, hbb, fun σ2 _ E2 => ?_⟩
    refine tS_mono (ow := c2.ow) (H := c2.H) (ρ := c2.ρ) ⟨E2, al.str _ Si.s, al.wf⟩ e3 (fun env' σ' c' z S' y => ?_) fun w v c' z s wf r y => ?_
    · subst z
      exact ⟨_, (by omega : ws.length - (i + 1) < ws.length - i), rfl, hlt, c', env', st3, rfl, S', x2.trans y, run⟩
    · subst z
      cases run
      exact hr w v c' rfl s wf r (x1.s.trans (x2.trans y))
  · have hie : i = ws.length := by omega
    subst hie
    refine .inl ⟨f2 _ (Nat.le_refl _), ?_⟩
    rw [List.drop_length] at run
    cases run
    exact hn env1 σ c rfl Si (x1.s.trans xi)
theorem s_while {t : Expr} {body : List Stmt} {ft : Tf} (hp : PassesOwn (model X.prog X.w) X.A X.env X.xe) (ht : TV m X t ft) (hb : SSV X body f) : SV X (.While t body [] pos) (whl_ ft f) := by
  refine ⟨(ps_while hp ht.pt hb.pss).imp ?_⟩
  intro D σ H0 h'
  obtain ⟨ow, ρ, env, st, fl, st', S, e, hn, hr⟩ := tS_use h'
  obtain ⟨n, hw⟩ := of_whl e
  refine ⟨fun n σ H => ∃ (c : Cf) (env : Env) (st : Store), c.H = H ∧ Sm X.K c env st σ ∧ ExS ⟨ow, H0, ρ⟩ c ∧ WhileR ft f n env st fl st', ⟨n, ⟨ow, H0, ρ⟩, env, st, rfl, S, ExS.refl _, hw⟩, ?_⟩
  rintro n σ H ⟨c, env1, sti, rfl, Si, xi, w⟩
  cases w with
  | stop h1 =>
    refine ⟨c.ow, c.ρ, env1, sti, Si, false, _, h1, fun c' x s wf => ?_⟩
    refine iteF ?_
    exact hn _ _ c' rfl (Si.exs x s wf) (xi.trans x.s)
  | ret h1 h2 =>
    refine ⟨c.ow, c.ρ, env1, sti, Si, true, _, h1, fun c' x s wf => ?_⟩
    refine iteT ⟨fun _ _ => False, fun _ _ z => z.elim, ?_⟩
    exact tS_mono (ow := c'.ow) (ρ := c'.ρ) (Si.exs x s wf) h2 (fun env' σ' c2 z => nomatch z) fun w v c2 z s wf r y => by cases z; exact hr _ _ c2 rfl s wf r (xi.trans (x.s.trans y))
  | go h1 h2 h3 =>
    rename_i n env2 st1 st2
    refine ⟨c.ow, c.ρ, env1, sti, Si, true, _, h1, fun c' x s wf => ?_⟩
    refine iteT ⟨fun σ' H' => ∃ (c : Cf) (env : Env) (st : Store), c.H = H' ∧ Sm X.K c env st σ' ∧ ExS ⟨ow, H0, ρ⟩ c ∧ WhileR ft f n env st fl st', fun σ' H' z => ⟨n, Nat.lt_succ_self _, z⟩, ?_⟩
    exact tS_mono (ow := c'.ow) (ρ := c'.ρ) (Si.exs x s wf) h2 (fun env' σ' c2 z S' y => by cases z; exact ⟨c2, _, _, rfl, S', xi.trans (x.s.trans y), h3⟩) fun w v c2 z => nomatch z
end
end Cr
/-! Cr11: a slot's own list or dict is written; freezing; returns. -/
namespace Cr
open PySem PySem.Spec PyProof.Rows L2

section
variable {K : PySem.W.Frag} {m : Bool} {c : Cf} {env : Env} {st : Store} {σ : L2.St} {i : Nat}
/-- the list at a slot -/
theorem Sm.lst {ws : List W} (S : Sm K c env st σ) (h : env[i]? = some (some (.ol ws))) : ∃ a vs, σ[i]? = some (some (.ref a)) ∧ c.ow a = some (.env i) ∧ c.H a = some (.lst vs) ∧ RepLC K c ws vs ∧ ws.length ≤ LIM := by
  obtain ⟨v, h1, h2⟩ := S.e.at_ i _ h
  obtain ⟨pk, ow⟩ := h2
  cases pk with
  | ol e r z =>
    obtain ⟨a, q, w⟩ := ow
    cases q
    exact ⟨_, _, h1, w, e, r, z⟩
theorem Sm.dct {ws : List (Key × W)} (S : Sm K c env st σ) (h : env[i]? = some (some (.od ws))) : ∃ a vs, σ[i]? = some (some (.ref a)) ∧ c.ow a = some (.env i) ∧ c.H a = some (.dK vs) ∧ RepD K c.fz c.ρ ws vs ∧ ws.length ≤ LIM := by
  obtain ⟨v, h1, h2⟩ := S.e.at_ i _ h
  obtain ⟨pk, ow⟩ := h2
  cases pk with
  | od e r z =>
    obtain ⟨a, q, w⟩ := ow
    cases q
    exact ⟨_, _, h1, w, e, r, z⟩
theorem Sm.wr {a : Addr} {u : HO} {o : O} (S : Sm K c env st σ) (hv : σ[i]? = some (some (.ref a))) (ho : c.ow a = some (.env i)) (h : Hd K (c.wr a u) (.env i) o (.ref a)) : Sm K (c.wr a u) (env.set i (some o)) st σ ∧ ExS c (c.wr a u) :=
  ⟨⟨S.e.mut hv h (Cf.wr_frz ho) (fun _ _ h => h) (fun j a' hj h1 => Cf.wr_own ho h1 fun z => by cases z; exact hj rfl), Cf.wr_st ho S.s, Cf.wr_wf S.wf⟩, Cf.wr_exs ho⟩
theorem Sm.wrL {a : Addr} {vs : List V} {ws : List W} (S : Sm K c env st σ) (hv : σ[i]? = some (some (.ref a))) (ho : c.ow a = some (.env i)) (r : RepLC K c ws vs) (z : ws.length ≤ LIM) : Sm K (c.wr a (.lst vs)) (env.set i (some (.ol ws))) st σ ∧ ExS c (c.wr a (.lst vs)) :=
  S.wr hv ho ⟨.ol upd_same (r.mono (fz_le (Cf.wr_frz ho)) fun _ _ h => h) z, a, rfl, ho⟩
theorem Sm.wrD {a : Addr} {vs : List (Key × V)} {ws : List (Key × W)} (S : Sm K c env st σ) (hv : σ[i]? = some (some (.ref a))) (ho : c.ow a = some (.env i)) (r : RepD K c.fz c.ρ ws vs) (z : ws.length ≤ LIM) : Sm K (c.wr a (.dK vs)) (env.set i (some (.od ws))) st σ ∧ ExS c (c.wr a (.dK vs)) :=
  S.wr hv ho ⟨.od upd_same (r.mono (fz_le (Cf.wr_frz ho)) fun _ _ h => h) z, a, rfl, ho⟩
end

/-- x.append(e) -/
def app_ (i : Nat) (f : Ef) : Sf := fun env st => (f env st).bind fun w st1 => match env[i]? with
  | some (some (.ol xs)) => if xs.length < LIM then .ok (.nx (env.set i (some (.ol (xs ++ [w]))))) st1 else .no
  | _ => .no
/-- x.extend(e) -/
def ext_ (i : Nat) (f : Ef) : Sf := fun env st => (f env st).bind fun w st1 => match env[i]?, w with
  | some (some (.ol xs)), .lst ys => if xs.length + ys.length ≤ LIM then .ok (.nx (env.set i (some (.ol (xs ++ ys))))) st1 else .no
  | _, _ => .no
/-- x.pop() as a statement -/
def pop_ (i : Nat) : Sf := fun env st => match env[i]? with
  | some (some (.ol xs)) => if xs.isEmpty then .no else .ok (.nx (env.set i (some (.ol xs.dropLast)))) st
  | _ => .no
/-- x[k] = e -/
def put_ (i : Nat) (fk fe : Ef) : Sf := fun env st => (fe env st).bind fun v st1 => (fk env st1).bind fun k st2 => match env[i]? with
  | some (some (.ol xs)) => match k with
    | .int n => match ixN xs.length n with
      | some j => .ok (.nx (env.set i (some (.ol (xs.set j v))))) st2
      | none => .no
    | _ => .no
  | some (some (.od kvs)) => match k.key with
    | some k => if kvs.length < LIM then .ok (.nx (env.set i (some (.od (putW kvs k v))))) st2 else .no
    | none => .no
  | _ => .no
/-- x[k] op= e -/
def aug_ (g : Int → Int → Int) (i : Nat) (fk fe : Ef) : Sf := fun env st => (fk env st).bind fun k st1 => (fe env st1).bind fun v st2 => match env[i]?, k, v with
  | some (some (.ol xs)), .int n, .int b => match ixN xs.length n with
    | some j => match xs[j]? with
      | some (.int a) => .ok (.nx (env.set i (some (.ol (xs.set j (.int (g a b))))))) st2
      | _ => .no
    | none => .no
  | _, _, _ => .no
/-- x op= e, a name -/
def augN_ (g : Int → Int → Int) (i : Nat) (fe : Ef) : Sf := fun env st => match env[i]? with
  | some (some (.w (.int a))) => (fe env st).bind fun v st1 => match v with
    | .int b => .ok (.nx (env.set i (some (.w (.int (g a b)))))) st1
    | _ => .no
  | _ => .no
/-- a slot's own thing stands from here on -/
def freeze_ (i : Nat) (f : Sf) : Sf := fun env st => match env[i]? with
  | some (some (.ol xs)) => f (env.set i (some (.w (.lst xs)))) st
  | some (some (.od xs)) => f (env.set i (some (.w (.dct xs)))) st
  | _ => f env st
/-- return x, x the slot's own -/
def retO_ (i : Nat) : Sf := fun env st => match env[i]? with
  | some (some (.ol xs)) => .ok (.rt (.lst xs)) st
  | some (some (.od xs)) => .ok (.rt (.dct xs)) st
  | some (some (.w x)) => .ok (.rt x) st
  | _ => .no

def rSetDi : V → V → V → Hp → (Hp → Prop) → Prop := fun o i v H Q => ∃ a H4, o = .ref a ∧ DPut H a i v H4 ∧ Q H4
theorem set_dict {X : Cx} (hu : X.A.units + 1 < cLine) : PSet X rSetDi := by
  intro pins s σ H o i v ov iv u Q I ro ri rv h
  obtain ⟨a, H4, rfl, g, q⟩ := h
  cases ro
  exact d_setItem hu I g ri rv fun s' I' => ⟨H4, I', q⟩
theorem PSet.or {X : Cx} {t t' : TSet} (h : PSet X t) (h' : PSet X t') : PSet X (fun o i v H Q => t o i v H Q ∨ t' o i v H Q) := by
  intro pins s σ H o i v ov iv u Q I ro ri rv q
  rcases q with q | q
  · exact h pins s σ H o i v ov iv u Q I ro ri rv q
  · exact h' pins s σ H o i v ov iv u Q I ro ri rv q
theorem get_list {X : Cx} : PGet X (rIxL X.K) := by
  intro pins s σ H x y v u Q I rx ry h
  obtain ⟨p, xs, i, z, rfl, rfl, hq, he, q⟩ := h
  cases rx
  obtain ⟨t, rfl⟩ := ry
  obtain ⟨its, r, pl, hz⟩ := I.list hq
  obtain ⟨j, h1, h2, h3, h4, h5⟩ := atI_get he
  obtain ⟨w, ew, rw'⟩ := r.get h2
  have hl := r.length
  have hn := line63
  have fin : EP X pins σ Q w s := ⟨z, H, I, rw', q⟩
  by_cases h0 : 0 ≤ i
  · have hj : i.toNat = j := by
      rw [seqIndex_of h0 h5] at h1
      exact Option.some.inj h1
    exact wpAny_getItem_list pl.isList h0 (by omega) (by rw [hj]; simpa using ew) fin
  · have hj : (i + (its.toArray.size : Int)).toNat = j := by
      rw [seqIndex_neg (by omega) h4] at h1
      rw [List.size_toArray, ← hl]
      exact Option.some.inj h1
    exact wpAny_getItem_list_neg pl.isList (by omega) (by rw [List.size_toArray] <;> omega) (by omega) (by rw [hj]; simpa using ew) fin

section
variable {X : Cx} {m : Bool} {e k : Expr} {es : List Expr} {fe fk : Ef} {f : Sf} {ss : List Stmt} {pos apos cpos spos kpos : Pos} {i : Nat} {x : Str}
theorem s_append (hN : X.N[i]? = some x) (hv : Vis X.env.scope x) (he : EV m X e fe)
    (hd : (x == ("__debug__" : Str)) = false := by decide) (hcd : (x == ("__classdict__" : Str)) = false := by decide)
    (hbase : attributeBase (.Name x kpos) "append" X.env (eval (.Name x kpos) X.env) = eval (.Name x kpos) X.env := by rfl)
    (hfew : ((backTo cpos (starEach [e] X.env)).all (fun x => !x.1) && (backToKw cpos (keywordEach [] X.env)).all (fun x => x.1.isSome) && decide ([e].length + ([] : List Keyword).length + (if ([] : List Keyword).isEmpty then 0 else 1) < 30)) = true := by rfl)
    (hline : (apos.endLine == cpos.line) = true := by rfl) (hs : starEach [e] X.env = (false, eval e X.env) :: starEach [] X.env := by rfl) (hsw : swapsWith (.Call (.Attribute (.Name x kpos) "append" apos) [e] [] cpos) none spos.line X.env = pure false := by rfl) :
    SV X (.Expr (.Call (.Attribute (.Name x kpos) "append" apos) [e] [] cpos) spos) (app_ i fe) := by
  refine ⟨(ps_expr (pe_bm PySem.F.plainAttrs_list PySem.F.slot_list_append PySem.F.type_list_append mt_append (pe_var hN hv hd hcd) (pa_cons he.pe pa_nil hs) hbase hfew hline hs) hsw).imp ?_⟩
  intro D σ H h'
  obtain ⟨ow, ρ, env, st, fl, st', S, e, hn, hr⟩ := tS_use h'
  obtain ⟨w, st1, e1, e2⟩ := R.bind_ok e
  split at e2
  · rename_i xs hx
    split at e2 <;> cases e2
    rename_i hl
    obtain ⟨a, vs, h1, h2, h3, h4, h5⟩ := S.lst hx
    refine ⟨_, h1, .inl ⟨rfl, _, SqL.of h3⟩, ow, ρ, env, st, S, w, _, e1, fun v c1 x s wf r => ?_⟩
    obtain ⟨g1, g2⟩ := x.own a _ h2 rfl
    refine ⟨a, vs, v, rfl, rfl, g2.trans h3, by rw [lim_eq, ← h4.length]; exact hl, ?_⟩
    obtain ⟨S2, x2⟩ := (S.exs x s wf).wrL h1 g1 ((x.repL h4).append (.cons r .nil)) (by rw [List.length_append]; exact hl)
    exact hn _ _ _ rfl S2 (x.s.trans x2)
  · cases e2
theorem s_extend (hN : X.N[i]? = some x) (hv : Vis X.env.scope x) (he : EV m X e fe)
    (hd : (x == ("__debug__" : Str)) = false := by decide) (hcd : (x == ("__classdict__" : Str)) = false := by decide)
    (hbase : attributeBase (.Name x kpos) "extend" X.env (eval (.Name x kpos) X.env) = eval (.Name x kpos) X.env := by rfl)
    (hfew : ((backTo cpos (starEach [e] X.env)).all (fun x => !x.1) && (backToKw cpos (keywordEach [] X.env)).all (fun x => x.1.isSome) && decide ([e].length + ([] : List Keyword).length + (if ([] : List Keyword).isEmpty then 0 else 1) < 30)) = true := by rfl)
    (hline : (apos.endLine == cpos.line) = true := by rfl) (hs : starEach [e] X.env = (false, eval e X.env) :: starEach [] X.env := by rfl) (hsw : swapsWith (.Call (.Attribute (.Name x kpos) "extend" apos) [e] [] cpos) none spos.line X.env = pure false := by rfl) :
    SV X (.Expr (.Call (.Attribute (.Name x kpos) "extend" apos) [e] [] cpos) spos) (ext_ i fe) := by
  refine ⟨(ps_expr (pe_bm PySem.F.plainAttrs_list PySem.F.slot_list_extend PySem.F.type_list_extend mt_extend (pe_var hN hv hd hcd) (pa_cons he.pe pa_nil hs) hbase hfew hline hs) hsw).imp ?_⟩
  intro D σ H h'
  obtain ⟨ow, ρ, env, st, fl, st', S, e, hn, hr⟩ := tS_use h'
  obtain ⟨w, st1, e1, e2⟩ := R.bind_ok e
  split at e2
  · rename_i xs ys hx
    split at e2 <;> cases e2
    rename_i hl
    obtain ⟨a, vs, h1, h2, h3, h4, h5⟩ := S.lst hx
    refine ⟨_, h1, .inl ⟨rfl, _, SqL.of h3⟩, ow, ρ, env, st, S, _, _, e1, fun v c1 x s wf r => ?_⟩
    cases r with
    | lst q1 q2 q3 =>
      obtain ⟨g1, g2⟩ := x.own a _ h2 rfl
      refine ⟨a, _, vs, _, rfl, rfl, g2.trans h3, (Cf.of_fz q1).2, by rw [lim_eq, ← h4.length, ← q2.length]; exact hl, ?_⟩
      obtain ⟨S2, x2⟩ := (S.exs x s wf).wrL h1 g1 ((x.repL h4).append q2) (by rw [List.length_append]; exact hl)
      exact hn _ _ _ rfl S2 (x.s.trans x2)
  · cases e2
theorem s_pop (hN : X.N[i]? = some x) (hv : Vis X.env.scope x)
    (hd : (x == ("__debug__" : Str)) = false := by decide) (hcd : (x == ("__classdict__" : Str)) = false := by decide)
    (hbase : attributeBase (.Name x kpos) "pop" X.env (eval (.Name x kpos) X.env) = eval (.Name x kpos) X.env := by rfl)
    (hline : (apos.endLine == cpos.line) = true := by rfl) (hsw : swapsWith (.Call (.Attribute (.Name x kpos) "pop" apos) [] [] cpos) none spos.line X.env = pure false := by rfl) :
    SV X (.Expr (.Call (.Attribute (.Name x kpos) "pop" apos) [] [] cpos) spos) (pop_ i) := by
  refine ⟨(ps_expr (pe_bm0 PySem.F.plainAttrs_list PySem.F.slot_list_pop PySem.F.type_list_pop mt_pop (pe_var hN hv hd hcd) hbase hline) hsw).imp ?_⟩
  intro D σ H h'
  obtain ⟨ow, ρ, env, st, fl, st', S, e, hn, hr⟩ := tS_use h'
  unfold pop_ at e
  split at e
  · rename_i xs hx
    split at e <;> cases e
    rename_i hne
    obtain ⟨a, vs, h1, h2, h3, h4, h5⟩ := S.lst hx
    have hl := h4.length
    have hpos : 0 < xs.length := by
      cases xs with
      | nil => exact absurd rfl hne
      | cons _ _ => simp
    have hlt : vs.length - 1 < vs.length := by omega
    refine ⟨_, h1, .inl ⟨rfl, _, SqL.of h3⟩, a, vs, vs[vs.length - 1], rfl, rfl, h3, List.getElem?_eq_getElem hlt, ?_⟩
    have rd : RepLC X.K ⟨ow, H, ρ⟩ xs.dropLast vs.dropLast := by
      rw [List.dropLast_eq_take, List.dropLast_eq_take, hl]
      exact h4.take _
    obtain ⟨S2, x2⟩ := S.wrL h1 h2 rd (by rw [List.length_dropLast]; omega)
    exact hn _ _ _ rfl S2 x2
  · cases e
theorem RepL.setN {K : PySem.W.Frag} {H : Hp} {ρ : List Addr} {w : W} {v : V} {ws : List W} {vs : List V} (q : Rep K H ρ w v) (j : Nat) (r : RepL K H ρ ws vs) : RepL K H ρ (ws.set j w) (vs.set j v) := RepL.set q j r
theorem s_put {tpos : Pos} (hu : X.A.units + 1 < cLine) (hN : X.N[i]? = some x) (hv : Vis X.env.scope x) (hk : EV m X k fk) (he : EV m X e fe)
    (hd : (x == ("__debug__" : Str)) = false := by decide) (hcd : (x == ("__classdict__" : Str)) = false := by decide)
    (ha : ∀ v, assign (.Subscript (.Name x kpos) k tpos) X.env v = (do
      let ov ← holding [v] (eval (.Name x kpos) X.env)
      let iv ← holding [v, ov] (eval k X.env)
      standAt tpos
      holding [v, ov, iv] (setItem ov iv v)
      release [v, ov, iv] []) := by intro _; rfl)
    (hs : swapsWithSole [.Subscript (.Name x kpos) k tpos] e pos.line X.env = pure false := by rfl) (hw : swappedStores [.Subscript (.Name x kpos) k tpos] e X.env = pure none := by rfl)
    (h1 : (assignEach [.Subscript (.Name x kpos) k tpos] X.env).map (·.2) = [assign (.Subscript (.Name x kpos) k tpos) X.env] := by rfl) : SV X (.Assign [.Subscript (.Name x kpos) k tpos] e pos) (put_ i fk fe) := by
  refine ⟨(ps_asg he.pe (pg_sub (pe_var hN hv hd hcd) hk.pe (PSet.or set_list (set_dict hu)) ha) hs hw h1).imp ?_⟩
  intro D σ H h'
  obtain ⟨ow, ρ, env, st, fl, st', S, e, hn, hr⟩ := tS_use h'
  obtain ⟨w, st1, e1, e2⟩ := R.bind_ok e
  obtain ⟨kw, st2, e3, e4⟩ := R.bind_ok e2
  clear e2
  refine ⟨ow, ρ, env, st, S, w, st1, e1, fun v c1 x1 s1 w1 r1 => ?_⟩
  have S1 := S.exs x1 s1 w1
  split at e4
  · rename_i xs hx
    split at e4
    · split at e4 <;> cases e4
      rename_i n j hj
      obtain ⟨a, vs, h1, h2, h3, h4, h5⟩ := S1.lst hx
      refine ⟨_, h1, c1.ow, c1.ρ, env, st1, S1, _, _, e3, fun kv c2 x2 s2 w2 r2 => ?_⟩
      cases r2
      obtain ⟨g1, g2⟩ := x2.own a _ h2 rfl
      refine .inl ⟨a, vs, _, j, rfl, rfl, g2.trans h3, by rw [← h4.length]; exact hj, ?_⟩
      obtain ⟨S2, x3⟩ := (S1.exs x2 s2 w2).wrL h1 g1 ((x2.repL h4).setN (x2.rep r1) j) (by rw [List.length_set]; exact h5)
      exact hn _ _ _ rfl S2 (x1.s.trans (x2.s.trans x3))
    · cases e4
  · rename_i kvs hx
    split at e4
    · split at e4 <;> cases e4
      rename_i key hkey hl
      obtain ⟨a, vs, h1, h2, h3, h4, h5⟩ := S1.dct hx
      refine ⟨_, h1, c1.ow, c1.ρ, env, st1, S1, _, _, e3, fun kv c2 x2 s2 w2 r2 => ?_⟩
      have ek : kv = kV key := View.key (.of r2) hkey
      subst ek
      obtain ⟨g1, g2⟩ := x2.own a _ h2 rfl
      refine .inr ⟨a, _, rfl, DPut.k (g2.trans h3) (by rw [lim_eq, ← h4.length]; exact hl), ?_⟩
      obtain ⟨S2, x3⟩ := (S1.exs x2 s2 w2).wrD h1 g1 (RepD.put key (x2.rep r1) (h4.mono (fz_le x2.frz) x2.loc)) (Nat.le_trans (putW_length ..) hl)
      exact hn _ _ _ rfl S2 (x1.s.trans (x2.s.trans x3))
    · cases e4
  · cases e4
theorem s_aug {tpos : Pos} {op : Operator} {g : Int → Int → Int} (ho : PIp X op (ipI g)) (hN : X.N[i]? = some x) (hv : Vis X.env.scope x) (hk : EV m X k fk) (he : EV m X e fe)
    (hd : (x == ("__debug__" : Str)) = false := by decide) (hcd : (x == ("__classdict__" : Str)) = false := by decide)
    (ha : ∀ ov iv new, augStore k ov iv new = (do holding [new, ov, iv] (setItem ov iv new); release [new, ov, iv] []; pure .next) := by intros; rfl) : SV X (.AugAssign (.Subscript (.Name x kpos) k tpos) op e pos) (aug_ g i fk fe) := by
  refine ⟨(ps_augS (pe_var hN hv hd hcd) hk.pe get_list he.pe ho set_list ha).imp ?_⟩
  intro D σ H h'
  obtain ⟨ow, ρ, env, st, fl, st', S, e, hn, hr⟩ := tS_use h'
  obtain ⟨kw, st1, e1, e2⟩ := R.bind_ok e
  obtain ⟨w, st2, e3, e4⟩ := R.bind_ok e2
  clear e2
  split at e4
  · rename_i xs n b hx
    split at e4
    · split at e4 <;> cases e4
      rename_i j hj _ y hy
      obtain ⟨a, vs, h1, h2, h3, h4, h5⟩ := S.lst hx
      refine ⟨_, h1, ow, ρ, env, st, S, _, _, e1, fun kv c1 x1 s1 w1 r1 => ?_⟩
      cases r1
      obtain ⟨g1, g2⟩ := x1.own a _ h2 rfl
      obtain ⟨v0, q1, q2⟩ := h4.get hy
      cases q2
      have hat : atI vs n = some (.int y) := by
        unfold atI
        rw [← h4.length, hj]
        exact q1
      refine ⟨a, vs, n, _, rfl, rfl, SqL.of (g2.trans h3), hat, ?_⟩
      have S1 := S.exs x1 s1 w1
      refine ⟨c1.ow, c1.ρ, env, st1, S1, _, _, e3, fun v c2 x2 s2 w2 r2 => ?_⟩
      cases r2
      obtain ⟨g3, g4⟩ := x2.own a _ g1 rfl
      refine ⟨_, _, rfl, rfl, a, vs, n, j, rfl, rfl, (g4.trans g2).trans h3, by rw [← h4.length]; exact hj, ?_⟩
      obtain ⟨S2, x3⟩ := (S1.exs x2 s2 w2).wrL h1 g3 ((x2.repL (x1.repL h4)).setN (.int (g y b)) j) (by rw [List.length_set]; exact h5)
      exact hn _ _ _ rfl S2 (x1.s.trans (x2.s.trans x3))
    · cases e4
  · cases e4
theorem s_augN {op : Operator} {g : Int → Int → Int} {npos : Pos} (ho : PIp X op (ipI g)) (hN : X.N.Nodup) (hi : X.N[i]? = some x) (hx : Loc X.env.scope x) (he : EV m X e fe)
    (hf : X.fn x = true ∨ X.env.scope.names.lookup x = some .local := by first | exact .inl rfl | exact .inr rfl | assumption) : SV X (.AugAssign (.Name x npos) op e pos) (augN_ g i fe) := by
  refine ⟨(ps_aug hN hi hx he.pe ho hf).imp ?_⟩
  intro D σ H h'
  obtain ⟨ow, ρ, env, st, fl, st', S, e, hn, hr⟩ := tS_use h'
  unfold augN_ at e
  split at e
  · rename_i a ha
    obtain ⟨w, st1, e1, e2⟩ := R.bind_ok e
    split at e2 <;> cases e2
    obtain ⟨v, h1, h2⟩ := S.e.at_ i _ ha
    obtain ⟨pk, _⟩ := h2
    cases pk with
    | w r =>
      cases r
      refine ⟨_, h1, ow, ρ, env, st, S, _, _, e1, fun v c1 x1 s1 w1 r1 => ?_⟩
      cases r1
      exact ⟨_, _, rfl, rfl, hn _ _ c1 rfl ((S.exs x1 s1 w1).put (.int _)) x1.s⟩
  · cases e

/-! ### a thing of one's own stands from now on -/
theorem Cf.fre {c : Cf} {a : Addr} {u : HO} (h : c.H a = some u) (o : HO) : ∀ b, b ≠ a → (Cf.mk (updW c.ow a none) (upd c.H a o) c.ρ).ow b = c.ow b ∧ (Cf.mk (updW c.ow a none) (upd c.H a o) c.ρ).H b = c.H b := fun b e => ⟨updW_ne e, upd_ne e⟩
theorem Sm.freeze {K : PySem.W.Frag} {c : Cf} {env : Env} {st : Store} {σ : L2.St} {a : Addr} {o : HO} {w : W} (S : Sm K c env st σ) (hv : σ[i]? = some (some (.ref a))) (ho : c.ow a = some (.env i))
    (hr : ∀ c', c'.ow a = none → c'.H a = some o → c'.ρ = c.ρ → Frz c c' → RepC K c' w (.ref a)) : Sm K ⟨updW c.ow a none, upd c.H a o, c.ρ⟩ (env.set i (some (.w w))) st σ ∧ ExS c ⟨updW c.ow a none, upd c.H a o, c.ρ⟩ := by
  have ne : ∀ b, c.ow b ≠ some (.env i) → b ≠ a := fun b h e => by rw [e] at h; exact h ho
  have fz : Frz c ⟨updW c.ow a none, upd c.H a o, c.ρ⟩ := fun b u h e => by
    have := ne b (by rw [h]; simp)
    exact ⟨(updW_ne this).trans h, (upd_ne this).trans e⟩
  have kp : ∀ b q, c.ow b = some q → q ≠ .env i → (Cf.mk (updW c.ow a none) (upd c.H a o) c.ρ).ow b = some q ∧ (Cf.mk (updW c.ow a none) (upd c.H a o) c.ρ).H b = c.H b := fun b q h hq => by
    have := ne b (by rw [h]; simpa using hq)
    exact ⟨(updW_ne this).trans h, upd_ne this⟩
  refine ⟨⟨S.e.mut hv ⟨.w (hr _ updW_same upd_same rfl fz), trivial⟩ fz (fun _ _ h => h) fun j b hj h => kp b _ h (fun z => by cases z; exact hj rfl), S.s.keep fz rfl (fun b n h => kp b _ h (fun z => by cases z)) (fun b n f h => kp b _ h (fun z => by cases z)), fun b q h => ?_⟩, ⟨fz, fun b h => kp b _ h (fun z => by cases z), fun _ _ h => h⟩⟩
  by_cases e : b = a
  · subst e; exact ⟨o, upd_same⟩
  · have h' : c.ow b = some q := (updW_ne e).symm.trans h
    obtain ⟨u, hu⟩ := S.wf b q h'
    exact ⟨u, (upd_ne e).trans hu⟩
theorem upd_self {H : Hp} {a : Addr} {o : HO} (h : H a = some o) : upd H a o = H := by
  funext b
  by_cases e : b = a
  · subst e; rw [upd_same, h]
  · rw [upd_ne e]
theorem Sm.freezeL {K : PySem.W.Frag} {c : Cf} {env : Env} {st : Store} {σ : L2.St} {ws : List W} (S : Sm K c env st σ) (h : env[i]? = some (some (.ol ws))) :
    ∃ ow', Sm K ⟨ow', c.H, c.ρ⟩ (env.set i (some (.w (.lst ws)))) st σ ∧ ExS c ⟨ow', c.H, c.ρ⟩ := by
  obtain ⟨a, vs, h1, h2, h3, h4, h5⟩ := S.lst h
  have := S.freeze (o := .lst vs) (w := .lst ws) h1 h2 fun c' q1 q2 q3 q4 => .lst (by rw [Cf.fz_of q1]; exact q2) (h4.mono (fz_le q4) fun n b z => by rw [q3]; exact z) h5
  rw [upd_self h3] at this
  exact ⟨_, this⟩
/-- a dict of ours is locked for ever -/
theorem pss_lock {t : TS} (h : PSs X ss t) : PSs X ss (fun D σ H => t D σ H ∨ ∃ d u, H d = some u ∧ Mut (some u) ∧ ∀ od, t D σ (upd H d (.frz od u))) := by
  refine ⟨fun pins s σ H D I hw => ?_⟩
  rcases hw with hw | ⟨d, u, hd, mu, q⟩
  · exact h.run pins s σ H D I hw
  · obtain ⟨od, I2⟩ := I.lock hd mu
    exact h.run pins s σ _ D I2 (q od)
theorem ss_freeze (i : Nat) (h : SSV X ss f) : SSV X ss (freeze_ i f) := by
  refine ⟨(pss_lock h.pss).imp ?_⟩
  intro D σ H h'
  obtain ⟨ow, ρ, env, st, fl, st', S, e, hn, hr⟩ := tS_use h'
  unfold freeze_ at e
  split at e
  · rename_i xs hx
    obtain ⟨ow', S', x'⟩ := S.freezeL hx
    exact .inl (tS_mono S' e (fun env' σ' c' z S2 y => hn env' σ' c' z S2 (x'.trans y)) fun w v c' z s wf r y => hr w v c' z s wf r (x'.trans y))
  · rename_i xs hx
    obtain ⟨a, vs, h1, h2, h3, h4, h5⟩ := S.dct hx
    refine .inr ⟨a, _, h3, trivial, fun od => ?_⟩
    obtain ⟨S', x'⟩ := S.freeze (o := .frz od (.dK vs)) (w := .dct xs) h1 h2 fun c' q1 q2 q3 q4 => .dct (by rw [Cf.fz_of q1]; exact q2) (h4.mono (fz_le q4) fun n b z => by rw [q3]; exact z) h5
    exact tS_mono S' e (fun env' σ' c' z S2 y => hn env' σ' c' z S2 (x'.trans y)) fun w v c' z s wf r y => hr w v c' z s wf r (x'.trans y)
  · exact .inl (tS_mono S e (fun env' σ' c' z S2 y => hn env' σ' c' z S2 y) fun w v c' z s wf r y => hr w v c' z s wf r y)
theorem s_retO (hN : X.N[i]? = some x) (hv : Vis X.env.scope x) (hd : (x == ("__debug__" : Str)) = false := by decide) (hcd : (x == ("__classdict__" : Str)) = false := by decide) : SV X (.Return (some (.Name x kpos)) pos) (retO_ i) := by
  have P : PE X (.Name x kpos) (fun σ H Q => tVar i σ H Q ∨ ∃ d u, σ[i]? = some (some (.ref d)) ∧ H d = some u ∧ Mut (some u) ∧ ∀ od, Q (.ref d) (upd H d (.frz od u))) := by
    refine ⟨fun pins s σ H Q I h => ?_⟩
    rcases h with h | ⟨d, u, h1, h2, mu, q⟩
    · exact (pe_var hN hv hd hcd).run pins s σ H Q I h
    · exact (PE.lock (pe_var hN hv hd hcd)).run pins s σ H Q I ⟨_, h1, d, u, h2, mu, q⟩
  refine ⟨(ps_ret P).imp ?_⟩
  intro D σ H h'
  obtain ⟨ow, ρ, env, st, fl, st', S, e, hn, hr⟩ := tS_use h'
  unfold retO_ at e
  split at e
  · rename_i xs hx
    cases e
    obtain ⟨ow', S', x'⟩ := S.freezeL hx
    obtain ⟨a, vs, h1, h2, h3, h4, h5⟩ := S.lst hx
    have hlt : i < env.length := (List.getElem?_eq_some_iff.mp hx).1
    obtain ⟨v, q1, q2⟩ := S'.e.at_ i _ (List.getElem?_set_self hlt)
    obtain ⟨pk, _⟩ := q2
    cases pk with
    | w r => exact .inl ⟨v, q1, hr _ v ⟨ow', H, ρ⟩ rfl S'.s S'.wf r x'⟩
  · rename_i xs hx
    cases e
    obtain ⟨a, vs, h1, h2, h3, h4, h5⟩ := S.dct hx
    refine .inr ⟨a, _, h1, h3, trivial, fun od => ?_⟩
    obtain ⟨S', x'⟩ := S.freeze (o := .frz od (.dK vs)) (w := .dct xs) h1 h2 fun c' q1 q2 q3 q4 => .dct (by rw [Cf.fz_of q1]; exact q2) (h4.mono (fz_le q4) fun n b z => by rw [q3]; exact z) h5
    have hlt : i < env.length := (List.getElem?_eq_some_iff.mp hx).1
    obtain ⟨v, q1, q2⟩ := S'.e.at_ i _ (List.getElem?_set_self hlt)
    rw [h1] at q1
    cases q1
    obtain ⟨pk, _⟩ := q2
    cases pk with
    | w r => exact hr _ _ _ rfl S'.s S'.wf r x'
  · rename_i y hx
    cases e
    obtain ⟨v, h1, h2⟩ := S.e.at_ i _ hx
    obtain ⟨pk, _⟩ := h2
    cases pk with
    | w r => exact .inl ⟨v, h1, hr _ v ⟨ow, H, ρ⟩ rfl S.s S.wf r (ExS.refl _)⟩
  · cases e
end
end Cr
/-! Cr12: own defs, their calls; shared dicts; the law's end. -/
namespace Cr
open PySem PySem.Spec PyProof.Rows L2

/-- a def's promise -/
def spF (K : PySem.W.Frag) (n : Nat) (f : Df) : Sp := fun vs H Q _ => ∃ ow ρ ws st, vs.length = n ∧ RepLC K ⟨ow, H, ρ⟩ ws vs ∧ StR K ⟨ow, H, ρ⟩ st ∧ Wf ⟨ow, H, ρ⟩ ∧ (∀ a i, ow a ≠ some (.env i)) ∧ ∃ w st', f ws st = .ok w st' ∧
  ∀ v c', ExS ⟨ow, H, ρ⟩ c' → StR K c' st' → Wf c' → RepC K c' w v → Q v c'.H
def run_ (n : Nat) (body : Sf) : Df := fun ws st => (body (ws.map (fun w => some (.w w)) ++ List.replicate (n - ws.length) none) st).bind fun fl st1 => match fl with
  | .nx _ => .ok .non st1
  | .rt w => .ok w st1
def call_ (f : Df) (fa : Af) : Ef := fun env st => (fa env st).bind fun ws st1 => f ws st1

theorem EV.lift {m : Bool} {X : Cx} {e : Expr} {f : Ef} (h : EV true X e f) : EV m X e f := by
  cases m with
  | true => exact h
  | false => exact h.gen
section
variable {K : PySem.W.Frag}
/-- for a callee: what is ours is out of reach -/
def Ow.cal (ow : Ow) : Ow := fun a => match ow a with
  | some (.env _) => some .out
  | o => o
/-- behind a call -/
def Ow.back (ow ow' : Ow) : Ow := fun a => match ow a with
  | some (.env i) => some (.env i)
  | some .out => some .out
  | _ => match ow' a with
    | some (.env _) => none
    | some .out => none
    | o => o
theorem cal_none {ow : Ow} {a : Addr} : ow.cal a = none ↔ ow a = none := by
  unfold Ow.cal
  cases h : ow a with
  | none => simp
  | some p => cases p <;> simp
theorem cal_fz {ow : Ow} {H : Hp} {ρ : List Addr} : (Cf.mk ow.cal H ρ).fz = (Cf.mk ow H ρ).fz := by
  funext a
  unfold Cf.fz
  cases h : ow a with
  | none => simp only [cal_none.mpr h, h]
  | some p =>
    cases h' : ow.cal a with
    | none => rw [cal_none.mp h'] at h; cases h
    | some p' => simp only [h, h']
theorem StR.cal {ow : Ow} {H : Hp} {ρ : List Addr} {st : Store} (s : StR K ⟨ow, H, ρ⟩ st) : StR K ⟨ow.cal, H, ρ⟩ st := by
  refine s.keep (fun a o h e => ⟨cal_none.mpr h, e⟩) rfl (fun a n h => ⟨?_, rfl⟩) fun a n f h => ⟨?_, rfl⟩
  · have h : ow a = some (.obj n) := h
    show ow.cal a = _
    unfold Ow.cal; rw [h]
  · have h : ow a = some (.fld n f) := h
    show ow.cal a = _
    unfold Ow.cal; rw [h]
theorem call_imp {n : Nat} {f : Df} {fa : Af} {E : XK} {m : Bool} (hn : ∀ env st ws st', fa env st = .ok ws st' → ws.length = n) : ∀ σ H Q, tEf K false (call_ f fa) σ H Q → tCall (spF K n f) [] E (tAf K m fa) σ H Q := by
  rintro σ H Q ⟨ow, ρ, env, st, S, w, st', e, q⟩
  obtain ⟨ws, st1, e1, e2⟩ := R.bind_ok e
  refine ⟨ow, ρ, env, st, S, ws, st1, e1, fun vs c2 x s wf r => ?_⟩
  have fzE : (Cf.mk c2.ow.cal c2.H c2.ρ).fz = c2.fz := cal_fz
  refine ⟨c2.ow.cal, c2.ρ, ws, st1, ?_, ?_, s.cal, ?_, ?_, w, st', e2, fun v c' y s' wf' r' => ?_⟩
  · rw [List.append_nil, ← r.length]; exact hn _ _ _ _ e1
  · rw [List.append_nil]
    show RepL K (Cf.mk c2.ow.cal c2.H c2.ρ).fz c2.ρ ws vs
    rw [fzE]; exact r
  · intro a p h
    cases h' : c2.ow a with
    | none =>
      have h : c2.ow.cal a = some p := h
      rw [cal_none.mpr h'] at h; cases h
    | some p' => exact wf a p' h'
  · intro a i h
    unfold Ow.cal at h
    cases h' : c2.ow a with
    | none => rw [h'] at h; cases h
    | some p => rw [h'] at h; cases p <;> cases h
  · -- behind the call
    have mine : ∀ a p, c2.ow a = some p → p.mine = true → c'.ow a = some .out ∧ c'.H a = c2.H a ∧ (c2.ow.back c'.ow) a = some p := fun a p h hp => by
      have hc : c2.ow.cal a = some .out := by unfold Ow.cal; rw [h]; cases p <;> first | rfl | cases hp
      obtain ⟨h1, h2⟩ := y.out a hc
      refine ⟨h1, h2, ?_⟩
      unfold Ow.back; rw [h]; cases p <;> first | rfl | cases hp
    have back : ∀ a p, c'.ow a = some p → p ≠ .out → (∀ i, p ≠ .env i) → (c2.ow.back c'.ow) a = some p := fun a p h h1 h2 => by
      unfold Ow.back
      cases h' : c2.ow a with
      | none => simp only [h]; cases p <;> first | rfl | exact absurd rfl h1 | exact absurd rfl (h2 _)
      | some p' =>
        by_cases hm : p'.mine = true
        · obtain ⟨g, _, _⟩ := mine a p' h' hm
          rw [h] at g; cases g; exact absurd rfl h1
        · cases p' <;> first | exact absurd rfl hm | (simp only [h]; cases p <;> first | rfl | exact absurd rfl h1 | exact absurd rfl (h2 _))
    have none' : ∀ a, c'.ow a = none → (c2.ow.back c'.ow) a = none := fun a h => by
      unfold Ow.back
      cases h' : c2.ow a with
      | none => simp only [h]
      | some p' =>
        by_cases hm : p'.mine = true
        · obtain ⟨g, _, _⟩ := mine a p' h' hm
          rw [h] at g; cases g
        · cases p' <;> first | exact absurd rfl hm | simp only [h]
    have fz : Frz c' ⟨c2.ow.back c'.ow, c'.H, c'.ρ⟩ := fun a o h e => ⟨none' a h, e⟩
    refine q v ⟨c2.ow.back c'.ow, c'.H, c'.ρ⟩ (x.gen.trans ⟨fun a o h e => ?_, fun a p h hp => ?_, y.loc, fun z => nomatch z⟩) (s'.keep fz rfl (fun a n h => ⟨back a _ h (fun z => by cases z) (fun i z => by cases z), rfl⟩) fun a n f h => ⟨back a _ h (fun z => by cases z) (fun i z => by cases z), rfl⟩) ?_ (r'.mono (fz_le fz) fun _ _ h => h)
    · obtain ⟨h1, h2⟩ := y.frz a o (cal_none.mpr h) e
      exact ⟨none' a h1, h2⟩
    · obtain ⟨_, h2, h3⟩ := mine a p h hp
      exact ⟨h3, h2⟩
    · intro a p h
      cases h' : c'.ow a with
      | none =>
        have h : (c2.ow.back c'.ow) a = some p := h
        rw [none' a h'] at h; cases h
      | some p' => exact wf' a p' h'
end
theorem nil_len : ∀ env st ws st', nil_ env st = .ok ws st' → ws.length = 0 := fun _ _ _ _ h => by cases h; rfl
theorem cons_len {f : Ef} {r : Af} {n : Nat} (h : ∀ env st ws st', r env st = .ok ws st' → ws.length = n) : ∀ env st ws st', cons_ f r env st = .ok ws st' → ws.length = n + 1 := fun env st ws st' e => by
  obtain ⟨x, st1, e1, e2⟩ := R.bind_ok e
  obtain ⟨xs, st2, e3, e4⟩ := R.bind_ok e2
  cases e4
  rw [List.length_cons, h _ _ _ _ e3]
/-! ### a def's promise where no guard of repr is held -/
/-- as FnOk, for the runs within which nothing is being shown -/
structure FnG (P : Program) (w : World) (K : PySem.W.Frag) (mg : Str → Option Value) (base : Heap) (CX : CXT) (k : Nat) (f : Addr) (fd : FuncData) (ps : List Str) (sp : Sp) : Prop where
  len : ∀ vs H Q E, sp vs H Q E → vs.length = ps.length
  run : ∀ (A : Around) (outer : List PySem.Env) (s : Shared) (H : Hp) (args : Args) (us : List Value) (vs : List V) (Q : VK) (E : XK), Room k A → A.guards = some [] →
    Env0 P w K mg base A outer s H → BindsTo s fd args (ps.zip us) → Vals vs us → sp vs H Q E → codeAny (model P w) A (.call (.ref f) args) (CR CX outer P w H s Q E) s
section
variable {X : Cx} {m : Bool} {k n : Nat} {fA : Addr} {fd : FuncData} {ps : List Str} {x : Str} {p pos : Pos} {e : Expr} {es : List Expr} {fa : Af} {f : Df} {sp : Sp} {E : XK} {CX : CXT} {t : TA}
theorem run_g {pins : List (Addr × PySem.Obj)} {σ : L2.St} {H : Hp} {s : Shared} {Q : VK} {us : List Value} {vs : List V} (F : FnG X.prog X.w X.K X.mg X.base CX k fA fd ps sp) (hr : Room k X.A) (hg : X.A.guards = some []) (hb : Binds X.K fd ps [])
    (hx : Passes CX X E) (I : Inv X pins σ H s) (r : Vals vs us) (h : sp vs H Q E) : wpAny (model X.prog X.w) X.A (call (.ref fA) us) (EP X pins σ Q) X.xe s := by
  have hl : us.length = ps.length := r.length.symm.trans (F.len _ _ _ _ h)
  have hb' : BindsTo s fd ⟨us, []⟩ (ps.zip us) := by
    have := hb s us I.kIn (by rw [List.append_nil]; exact hl)
    rwa [List.append_nil] at this
  refine wpAny_call (codeAny_mono (F.run X.A X.stack s H ⟨us, []⟩ us vs Q E hr hg I.env0 hb' r h) fun r s' hq => ?_)
  match r, hq with
  | .error e, hq => exact hx pins σ H s e s' I hq
  | .ok (.ret u), hq => exact I.after hq
  | .ok .next, hq => exact hq.elim
  | .ok .brk, hq => exact hq.elim
  | .ok .cont, hq => exact hq.elim
theorem pe_callG (F : FnG X.prog X.w X.K X.mg X.base CX k fA fd ps sp) (hr : Room k X.A) (hgd : X.A.guards = some []) (hg : Gl X x) (hm : X.mg x = some (.ref fA)) (hk : PySem.W.keepIn X.K (.ref fA) = true) (hb : Binds X.K fd ps []) (hx : Passes CX X E)
    (ha : PA X (e :: es) t) (hdb : (x == ("__debug__" : Str)) = false := by decide) (he : starEach (e :: es) X.env = (false, eval e X.env) :: starEach es X.env := by rfl) (hpl : (backTo pos (starEach es X.env)).any (·.1) = false := by rfl) :
    PE X (.Call (.Name x p) (e :: es) [] pos) (tCall sp [] E t) :=
  ⟨fun pins s σ H Q I h => wpAny_Call_Name_kw (ld_glob I hg hm (PySem.W.callWith_K (h₀ := X.base) I.ok.mod.kin hk
    (thn (ha.run pos pins s σ H _ I h) fun us s1 ⟨vs, H1, I1, r, q⟩ => ⟨I1.kIn, run_g F hr hgd hb hx I1 r (by have q : sp (vs ++ []) H1 Q E := q; rwa [List.append_nil] at q)⟩) he hpl) hdb)⟩
theorem e_call (F : FnG X.prog X.w X.K X.mg X.base CX0 k fA fd ps (spF X.K n f)) (hr : Room k X.A) (hgd : X.A.guards = some []) (hg : Gl X x) (hm : X.mg x = some (.ref fA)) (hk : PySem.W.keepIn X.K (.ref fA) = true) (hb : Binds X.K fd ps [])
    (ha : AV m X (e :: es) fa) (hn : ∀ env st ws st', fa env st = .ok ws st' → ws.length = n) (hdb : (x == ("__debug__" : Str)) = false := by decide) (he : starEach (e :: es) X.env = (false, eval e X.env) :: starEach es X.env := by rfl) (hpl : (backTo pos (starEach es X.env)).any (·.1) = false := by rfl) :
    EV false X (.Call (.Name x p) (e :: es) [] pos) (call_ f fa) :=
  ⟨(pe_callG F hr hgd hg hm hk hb pass0 ha.pa hdb he hpl).imp (call_imp hn)⟩
end

/-! ### a def -/
section
variable {P : Program} {w : World} {K : PySem.W.Frag} {mg : Str → Option Value} {base : Heap}
theorem start_env {c : Cf} {ws : List W} {vs : List V} (N : List Str) (r : RepLC K c ws vs) : EnvR K c (ws.map (fun w => some (.w w)) ++ List.replicate (N.length - ws.length) none) (L2.start N vs) := by
  have hl := r.length
  refine ⟨?_, fun i o h => ?_⟩
  · unfold L2.start
    rw [List.length_append, List.length_append, List.length_map, List.length_map, List.length_replicate, List.length_replicate, hl]
  · by_cases hi : i < ws.length
    · rw [List.getElem?_append_left (by rw [List.length_map]; exact hi), List.getElem?_map] at h
      obtain ⟨w0, h1, h2⟩ := Option.map_eq_some_iff.mp h
      cases h2
      obtain ⟨v, h3, h4⟩ := r.get h1
      refine ⟨v, ?_, .w h4, trivial⟩
      unfold L2.start
      rw [List.getElem?_append_left (by rw [List.length_map]; omega), List.getElem?_map, h3]
      rfl
    · rw [List.getElem?_append_right (by rw [List.length_map]; omega), List.getElem?_replicate] at h
      split at h <;> cases h
/-- a def by its body, run where no guard is held -/
theorem fn_ofG {CX : CXT} {x qual : Str} {st : Stmt} {f : Addr} {fd : FuncData} {N ps : List Str} {k : Nat} {sp : Sp} (F : Fun K x qual st f fd) (S : FnScope N ps (defScope st)) (len : ∀ vs H Q E, sp vs H Q E → vs.length = ps.length)
    (hb : ∀ (cdv : Value) (A : Around) (outer : List PySem.Env) (s : Shared) (H : Hp) (vs : List V) (Q : VK) (E : XK), Room k (A.deeper (envOfC qual (defScope st) s.heap.objs.size f cdv)) → A.guards = some [] → sp vs H Q E →
      ∃ t, PSs (cxOf CX P w K mg base N qual (defScope st) f cdv A outer s H E) (defBody st) t ∧ t { nx := fun _ H' => Q .non H', rt := Q } (L2.start N vs) H) : FnG P w K mg base CX (k + 1) f fd ps sp := by
  obtain ⟨oc, od, kV, doc, pm, an, cdv, ct, osl, rfl, lk, hcd⟩ := F.ex
  constructor
  · exact len
  · intro A outer s H args us vs Q E hr hgd e0 bt r hsp
    have hl := len _ _ _ _ hsp
    have kp : ∀ b o, base.get? b = some o → s.heap.get? b = some o := fun b o e => (e0.bs b o e).1
    have KX := e0.mod.kin.keeps kp
    have names : ∀ y ∈ ps.zip us, (defScope st).names.lookup y.1 = some .local ∨ ((defScope st).names.lookup y.1 = some .cell ∧ ((cellsFrom (s.heap.objs.size + 1) (defScope st).names []).lookup y.1).isSome = true) := by
      rintro ⟨n, v⟩ hy
      exact (S.par n (List.of_mem_zip hy).1).imp id fun q => ⟨q, PySem.W.cellsFrom_some _ _ _ (.inl q)⟩
    refine codeAny_call_function hr.depth (KX _ _ lk) rfl S.co S.gen rfl (PySem.W.codeRec_of KX hcd)
      (bt _ _ _ _ (wpAny_newFunctionEnv_cells S.kind names fun env he s1 y => ?_))
    subst he
    refine ⟨(e0.mod.nolimit.keeps kp).keeps y.toInCall.keep, codeAny_func ?_⟩
    obtain ⟨t, ht, hq⟩ := hb cdv A outer s H vs Q E (hr.deeper _) hgd hsp
    have I := inv_start (CX := CX) (E := E) S hr.hd e0 hl r y
    refine wpAny_mono (ht.run [] s1 _ H _ I hq) (fun fl s' hs => ?_) fun _ _ z => z
    match fl, hs with
    | .ret u, ⟨v, σ', H', J, rv, q⟩ => exact ⟨v, H', J.os, J.bare, J.base, J.hok, rv, q⟩
    | .next, ⟨σ', H', J, q⟩ => exact ⟨.non, H', J.os, J.bare, J.base, J.hok, rfl, q⟩
    | .brk, ⟨_, _, _, q⟩ => exact q.elim
    | .cont, ⟨_, _, _, q⟩ => exact q.elim
theorem d_ok {x qual : Str} {st : Stmt} {f : Addr} {fd : FuncData} {N ps : List Str} {k : Nat} {body : Sf} (F : Fun K x qual st f fd) (S : FnScope N ps (defScope st))
    (hb : ∀ (cdv : Value) (A : Around) (outer : List PySem.Env) (s : Shared) (H : Hp) (E : XK), Room k (A.deeper (envOfC qual (defScope st) s.heap.objs.size f cdv)) → A.guards = some [] → SSV (cxOf CX0 P w K mg base N qual (defScope st) f cdv A outer s H E).nox (defBody st) body) :
    FnG P w K mg base CX0 (k + 1) f fd ps (spF K ps.length (run_ N.length body)) := by
  refine fn_ofG F S (fun vs H Q E h => ?_) fun cdv A outer s H vs Q E hr hgd h => ?_
  · obtain ⟨_, _, _, _, h, _⟩ := h
    exact h
  · obtain ⟨ow, ρ, ws, st0, hl, r, sr, wf, hne, wv, st', e, q⟩ := h
    refine ⟨_, (hb cdv A outer s H E hr hgd).pss.nox, ?_⟩
    obtain ⟨fl, st1, e1, e2⟩ := R.bind_ok e
    refine tS_mono (K := K) (ow := ow) (ρ := ρ) ⟨start_env N r, sr, wf⟩ e1 (fun env' σ' c' z S' y => ?_) fun w v c' z s wf r y => ?_
    · subst z
      cases e2
      exact q .non c' y S'.s S'.wf .non
    · subst z
      cases e2
      exact q v c' y s wf r
/-- a promise for the law: a list of at most 63 ints is handed in, True comes out -/
def spLaw (K : PySem.W.Frag) : Sp := fun vs H Q _ => ∃ (a : Addr) (ns : List Int), vs = [.ref a] ∧ SqL K H a (ns.map V.int) ∧ ns.length ≤ 63 ∧ ∀ H', Q (.bl true) H'
theorem law_ok {CX : CXT} {k : Nat} {f : Addr} {fd : FuncData} {ps : List Str} {g : Df} (F : FnG P w K mg base CX k f fd ps (spF K 1 g)) (h : ∀ ns : List Int, ns.length ≤ 63 → ∃ st', g [.scr ns] [] = .ok (.bl true) st') : FnG P w K mg base CX k f fd ps (spLaw K) := by
  have i : ∀ vs H Q E, spLaw K vs H Q E → spF K 1 g vs H Q E := by
    rintro vs H Q E ⟨a, ns, rfl, hs, hl, q⟩
    obtain ⟨st', e⟩ := h ns hl
    have fz : (Cf.mk (fun _ => none) H []).fz = H := rfl
    refine ⟨fun _ => none, [], [.scr ns], [], rfl, .cons (.scr (by rw [fz]; exact hs) (Nat.le_trans hl (by decide))) .nil, ⟨rfl, (fun n ob h => by simp at h)⟩, (fun a p h => nomatch h), (fun a i h => nomatch h), _, st', e, fun v c' _ _ _ r => ?_⟩
    cases r
    exact q _
  exact ⟨fun vs H Q E z => F.len vs H Q E (i _ _ _ _ z), fun A outer s H args us vs Q E hr hg e0 hb r z => F.run A outer s H args us vs Q E hr hg e0 hb r (i _ _ _ _ z)⟩

/-! ### the end of a law -/
/-- the law's def, called behind the top: nothing is tracked but the script -/
theorem law_end {CX : CXT} {mb : Str → Option Value} {k : Nat} {fa a : Addr} {fd : FuncData} {x : Str} {s1 : Shared} {vs : List Value} {ns : List Int} (KX : K.In s1.heap) (hns : s1.heap.Ns mainGlobals mg)
    (hbn : s1.heap.Ns builtinsNs mb) (hbb : ∀ x : Str, x ≠ "__name__" → mb x = bootBuiltins x) (hlim : s1.heap.NoLimit) (hgens : s1.gens = #[]) (ha : s1.heap.get? a = some { cls := .type "list", data := .seq vs.toArray }) (hi : IntsAre vs ns)
    (hl : ns.length ≤ 63) (hr : Room k callerA) (F : ∀ base : Heap, K.In base → base.Ns mainGlobals mg → FnG P w K mg base CX k fa fd [x] (spLaw K)) (hbind : ∀ (s : Shared) (u : Value), BindsTo s fd ⟨[u], []⟩ [(x, u)])
    (hCX : ∀ H e s', CX [] H s1 (fun _ _ _ => False) e s' → False) :
    codeAny (model P w) callerA (.call (.ref fa) ⟨[.ref a], []⟩) (fun r s' => r = .ok (.ret (.bool true)) ∧ OldK s1.heap s'.heap ∧ s'.os = s1.os ∧ AllBare s'.gens) s1 := by
  have rv := vals_ints hi
  have hz : ns.length ≤ sizeLine := Nat.le_trans hl (by decide)
  suffices main : ∀ H : Hp, SqL K H a (ns.map V.int) → HOk P w H s1.heap → (∀ b u, H b = some u → b = a ∧ K.lookup a = none ∧ ∃ o xs, u = .frz o (.lst xs)) → _ by
    cases hk : K.lookup a with
    | some o =>
      obtain rfl : _ = o := Option.some.inj (ha.symm.trans (KX a o hk))
      refine main (fun _ => none) (.inr ⟨_, vs.toArray, _, hk, rfl, rfl, rfl, ?_, by simpa using rv⟩) (fun b u z => nomatch z) fun b u z => nomatch z
      rw [List.size_toArray, hi.length]; exact hz
    | none =>
      refine main (fun b => if b = a then some (.frz { cls := .type "list", data := .seq vs.toArray } (.lst (ns.map V.int))) else none) (.inl (.inr ⟨_, if_pos rfl⟩)) (fun b u z => ?_) fun b u z => ?_
      all_goals
        by_cases e : b = a
        · subst e
          have z' := (if_pos rfl).symm.trans z
          cases z'
          first | exact ⟨ha, by rw [List.length_map]; exact hz, vs, _, rv, ha⟩ | exact ⟨rfl, hk, _, _, rfl⟩
        · have z' := (if_neg e).symm.trans z
          cases z'
  intro H hS hok hA
  have keepN : ∀ {b : Addr} {o : PySem.Obj}, s1.heap.get? b = some o → (b = a → False) → (hidT s1.heap H).get? b = some o := fun {b o} e ne => hidT_get e (by
    cases q : H b with
    | none => rfl
    | some u => exact (ne (hA b u q).1).elim)
  have nsK : ∀ {b : Addr} {m : Str → Option Value}, s1.heap.Ns b m → (hidT s1.heap H).Ns b m := fun {b m} ⟨o, es, ep, e, d, r⟩ => ⟨o, es, ep, keepN e (fun z => by
    subst z
    obtain rfl := Option.some.inj (ha.symm.trans e)
    cases (show Data.seq vs.toArray _ = Data.dict es ep from d)), d, r⟩
  have hKb : K.In (hidT s1.heap H) := fun b o e => by
    refine hidT_get (KX b o e) ?_
    cases q : H b with
    | none => rfl
    | some u =>
      obtain ⟨rfl, h, _⟩ := hA b u q
      rw [h] at e; cases e
  have e0 : Env0 P w K mg (hidT s1.heap H) callerA [] s1 H :=
    ⟨rfl, ⟨hKb, nsK hns, ⟨mb, nsK hbn, hbb⟩, let ⟨mc, h1, h2⟩ := hlim; ⟨mc, nsK h1, h2⟩⟩, fun b o e => of_hidT e, Nat.le_of_eq (hidT_size _ _), trivial, (fun b hb => nomatch hb), hok, .of_eq hgens⟩
  have start := (F _ hKb (nsK hns)).run callerA [] s1 H ⟨[.ref a], []⟩ [.ref a] [.ref a] (fun v _ => v = .bl true) (fun _ _ _ => False) hr rfl e0 (hbind s1 (.ref a)) (.cons rfl .nil) ⟨a, ns, rfl, hS, hl, fun _ => rfl⟩
  refine codeAny_mono start fun r s' h => ?_
  match r, h with
  | .error e, h => exact (hCX H e s' h).elim
  | .ok .next, h => exact h.elim
  | .ok .brk, h => exact h.elim
  | .ok .cont, h => exact h.elim
  | .ok (.ret u), ⟨v, H', os, bare, un, hok', r', q⟩ =>
    subst q
    refine ⟨by rw [show u = Value.bool true from r'], OldK.of_keep fun b o e => ?_, os, bare⟩
    cases hb : H b with
    | none => exact un.keep b o e hb (fun z => nomatch z) (fun z => nomatch z)
    | some u =>
      obtain ⟨_, _, ob, xs, rfl⟩ := hA b u hb
      obtain ⟨e1, _⟩ := hok b _ hb
      obtain ⟨e2, _⟩ := hok' b _ (un.frzs b ob _ hb)
      rw [e] at e1
      cases e1
      exact e2
end
theorem walk_law {l : PySem.W.OpenLaw} {k : Nat} {q : Program} {loose : List Str} {XP : (Str → Option Value) → Heap → Prop} {YP : World → Heap → Prop} {d : DefRec} {K : Params → PySem.W.Frag} {CX : World → CXT} {x : Str} (hn : l.most = some 63) (hdf : d.params.defaults = []) (hr : Room k callerA)
    (hY : ∀ (w : World) (h : Heap), YP w h → (K w.params).In h)
    (F : ∀ (w : World) (mg : Str → Option Value) (fa : Addr) (h : Heap), (K w.params).In h → h.Ns mainGlobals mg → mg d.name = some (.ref fa) → ∃ fd : FuncData, (∀ (s : Shared) (u : Value), BindsTo s fd ⟨[u], []⟩ [(x, u)]) ∧
      ∀ base : Heap, (K w.params).In base → base.Ns mainGlobals mg → FnG l.prog w (K w.params) mg base (CX w) k fa fd [x] (spLaw (K w.params)))
    (hCX : ∀ (w : World) (H : Hp) (s : Shared) (e : Value) (s' : Shared), CX w [] H s (fun _ _ _ => False) e s' → False) : PySem.W.WalkO q loose XP YP l.row.toRowW d [] (fun f vs => PySem.call f vs) :=
  Att.attach_call hn hdf fun w s0 s1 mg mb fa o pm cd doc a vs ns G Y ho hd hcd hmg hobj hints hlen hg => by
    obtain ⟨fd, hb, hF⟩ := F w mg fa _ (hY w _ Y) G.T.g hmg
    exact law_end (hY w _ Y) G.T.g G.T.b G.T.builtins G.T.nolimit hg hobj hints hlen hr hF hb fun H e s' => hCX w H s1 e s'
end Cr
/-! Cr13: shared dicts, repr, ranges as tuples, get. -/
namespace Cr
open PySem PySem.Spec PyProof.Rows L2

/-! ### a new shared dict -/
def sd2_ (n1 n2 : Str) (f1 f2 : Ef) : Ef := fun env st => (f1 env st).bind fun x st1 => (f2 env st1).bind fun y st2 => .ok (.ref st2.length) (st2 ++ [⟨none, [(n1, .w x), (n2, .w y)]⟩])
section
variable {K : PySem.W.Frag}
theorem StR.grow {c c1 : Cf} {st : Store} (s : StR K c st) (hf : Frz c c1) (hl : ∀ (n : Nat) (a : Addr), c.ρ[n]? = some a → c1.ρ[n]? = some a) (ho : ∀ a n, c.ow a = some (.obj n) → c1.ow a = some (.obj n) ∧ c1.H a = c.H a)
    (hp : ∀ a n f, c.ow a = some (.fld n f) → c1.ow a = some (.fld n f) ∧ c1.H a = c.H a) {n : Nat} {ob : Ob} (q : st[n]? = some ob) : ∃ a, c1.ρ[n]? = some a ∧ ObR K c1 n ob a := by
  obtain ⟨a, h1, h2⟩ := s.at_ n ob q
  refine ⟨a, hl _ _ h1, ?_⟩
  cases h2 with
  | dict e1 e2 e3 r =>
    obtain ⟨x, y⟩ := ho _ _ e2
    exact .dict e1 x (y.trans e3) (r.keep hf hl fun a f z => hp a _ f z)
theorem mergeK_two {n1 n2 : Str} {v1 v2 : V} (h : n1 ≠ n2) : mergeK [] [((Sum.inr n1 : Key), v1), (Sum.inr n2, v2)] = [(Sum.inr n1, v1), (Sum.inr n2, v2)] := by
  have e : ¬ ((Sum.inr n1 : Key) = Sum.inr n2) := fun z => h (Sum.inr.inj z)
  simp [mergeK, putK, e]
end
section
variable {X : Cx} {m : Bool} {a b : Expr} {f1 f2 : Ef} {pos p1 p2 : Pos} {j1 j2 : Nat} {n1 n2 : Str}
theorem e_sd2 (h1 : EV false X a f1) (h2 : EV false X b f2) (ne : n1 ≠ n2 := by decide) : EV false X (.Dict [some (.Constant (.str n1) j1 p1), some (.Constant (.str n2) j2 p2)] [a, b] pos) (sd2_ n1 n2 f1 f2) := by
  refine ⟨PE.imp (pe_disp (pps_cons (pe_str (x := n1) (j := j1) (pos := p1)) h1.pe (pps_cons (pe_str (x := n2) (j := j2) (pos := p2)) h2.pe pps_nil)) rfl rfl (by simp) (by simp)) ?_⟩
  rintro σ H Q ⟨ow, ρ, env, st, S, w, st', e, q⟩
  obtain ⟨x, st1, e1, e⟩ := R.bind_ok e
  obtain ⟨y, st2, e2, e⟩ := R.bind_ok e
  cases e
  intro p hp
  have wf0 : Wf ⟨ow, H, ρ⟩ := S.wf
  have hp0 : (Cf.mk ow H ρ).H p = none := hp
  have x01 : Ext false ⟨ow, H, ρ⟩ ((Cf.mk ow H ρ).new p .out (.dK [])) st st := Ext.new wf0 hp0
  refine ⟨updW ow p (some .out), ρ, env, st, ⟨x01.envR S.e, Cf.new_st wf0 hp0 S.s, Cf.new_wf wf0 hp0⟩, x, st1, e1, fun v1 c1 x1 s1 w1 r1 => ?_⟩
  have S1 : Sm X.K c1 env st1 σ := ⟨x1.envR (x01.envR S.e), s1, w1⟩
  refine ⟨c1.ow, c1.ρ, env, st1, S1, y, st2, e2, fun v2 c2 x2 s2 w2 r2 => ?_⟩
  have x12 := x1.trans x2
  have x02 := x01.trans x12
  obtain ⟨o2, h2'⟩ := x12.own p .out updW_same rfl
  have hH2 : c2.H p = some (.dK []) := h2'.trans upd_same
  refine ⟨hH2, [((Sum.inr n1 : Key), v1), (Sum.inr n2, v2)], rfl, by simp, ?_⟩
  rw [mergeK_two ne]
  have hlen := s2.len
  have neP : ∀ b q', c2.ow b = some q' → q' ≠ .out → b ≠ p := fun b q' h hq z => by rw [z, o2] at h; cases h; exact hq rfl
  have fz : Frz c2 ⟨updW c2.ow p (some (.obj st2.length)), upd c2.H p (.dK [((Sum.inr n1 : Key), v1), (Sum.inr n2, v2)]), c2.ρ ++ [p]⟩ := fun b u h e => by
    have : b ≠ p := fun z => by rw [z, o2] at h; cases h
    exact ⟨(updW_ne this).trans h, (upd_ne this).trans e⟩
  have lo : ∀ (n : Nat) (b : Addr), c2.ρ[n]? = some b → (c2.ρ ++ [p])[n]? = some b := fun n b h => by
    have := (List.getElem?_eq_some_iff.mp h).1
    rw [List.getElem?_append_left this]; exact h
  have kp : ∀ b q', c2.ow b = some q' → q' ≠ .out → updW c2.ow p (some (.obj st2.length)) b = some q' ∧ upd c2.H p (.dK [((Sum.inr n1 : Key), v1), (Sum.inr n2, v2)]) b = c2.H b := fun b q' h hq =>
    ⟨(updW_ne (neP b q' h hq)).trans h, upd_ne (neP b q' h hq)⟩
  have new : (c2.ρ ++ [p])[st2.length]? = some p := by rw [hlen, List.getElem?_append_right (Nat.le_refl _), Nat.sub_self]; rfl
  refine q _ ⟨updW c2.ow p (some (.obj st2.length)), upd c2.H p (.dK [((Sum.inr n1 : Key), v1), (Sum.inr n2, v2)]), c2.ρ ++ [p]⟩ ⟨fun b u h e => ?_, fun b q' h hq => ?_, fun n b h => lo n b (x02.loc n b h), fun z => nomatch z⟩ ⟨?_, fun n ob h => ?_⟩ (fun b q' h => ?_) (.ref new)
  · obtain ⟨g1, g2⟩ := x02.frz b u h e
    exact fz b u g1 g2
  · obtain ⟨g1, g2⟩ := x02.own b q' h hq
    have nb : b ≠ p := fun z => by
      obtain ⟨u, hu⟩ := wf0 b q' h
      rw [z] at hu
      have hu : H p = some u := hu
      rw [hp] at hu; cases hu
    exact ⟨(updW_ne nb).trans g1, (upd_ne nb).trans g2⟩
  · show (st2 ++ [_]).length = (c2.ρ ++ [p]).length
    rw [List.length_append, List.length_append, hlen]; rfl
  · by_cases hn : n < st2.length
    · rw [List.getElem?_append_left hn] at h
      exact s2.grow fz lo (fun b n h => kp b _ h (fun z => by cases z)) (fun b n f h => kp b _ h (fun z => by cases z)) h
    · have hn' : n = st2.length := by
        have := (List.getElem?_eq_some_iff.mp h).1
        rw [List.length_append, List.length_singleton] at this
        omega
      subst hn'
      rw [List.getElem?_append_right (Nat.le_refl _), Nat.sub_self] at h
      cases h
      refine ⟨p, new, .dict rfl updW_same upd_same (.cons ⟨.w ?_, trivial⟩ (.cons ⟨.w ?_, trivial⟩ .nil))⟩
      · exact (x2.rep r1).mono (fz_le fz) lo
      · exact r2.mono (fz_le fz) lo
  · by_cases e : b = p
    · subst e; exact ⟨_, upd_same⟩
    · have h' : c2.ow b = some q' := (updW_ne e).symm.trans h
      obtain ⟨u, hu⟩ := w2 b q' h'
      exact ⟨u, (upd_ne e).trans hu⟩
end

/-! ### w[f] += e -/
def putO (fs : List (Str × O)) (f : Str) (o : O) : List (Str × O) := fs.map fun p => if p.1 = f then (p.1, o) else p
def fadd_ (f : Str) (fo fe : Ef) : Sf := fun env st => (fo env st).bind fun x st1 => (fe env st1).bind fun y st2 => match x, y with
  | .ref n, .int j => match st1[n]? with
    | some ob => match ob.cls, ob.fs.lookup f with
      | none, some (.w (.int i)) => if ob.fs.length < 1000 then .ok (.nx env) (st2.set n ⟨none, putO ob.fs f (.w (.int (i + j)))⟩) else .no
      | _, _ => .no
    | none => .no
  | _, _ => .no
section
variable {K : PySem.W.Frag}
theorem FldR.length {c : Cf} {n : Nat} : ∀ {fs : List (Str × O)} {vs : List (Key × V)}, FldR K c n fs vs → fs.length = vs.length
  | _, _, .nil => rfl
  | _, _, .cons _ r => by rw [List.length_cons, List.length_cons, FldR.length r]
theorem FldR.any {c : Cf} {n : Nat} {f : Str} : ∀ {fs : List (Str × O)} {vs : List (Key × V)}, FldR K c n fs vs → (fs.lookup f).isSome = true → (vs.any fun kv => decide (kv.1 = Sum.inr f)) = true
  | _, _, .nil, h => by cases h
  | _, _, .cons (f := g) h r, e => by
    rw [List.lookup_cons] at e
    by_cases q : f = g
    · subst q; simp
    · have z : (f == g) = false := by simpa using q
      rw [z] at e
      rw [List.any_cons, FldR.any r e, Bool.or_true]
theorem FldR.map {c : Cf} {n : Nat} {f : Str} {o : O} {v : V} (h : Hd K c (.fld n f) o v) : ∀ {fs : List (Str × O)} {vs : List (Key × V)}, FldR K c n fs vs → FldR K c n (putO fs f o) (vs.map fun kv => if kv.1 = Sum.inr f then (kv.1, v) else kv)
  | _, _, .nil => .nil
  | _, _, .cons (f := g) (v := v0) (o := o0) (fs := fs) (vs := vs) h0 r => by
    by_cases q : g = f
    · subst q
      have e1 : putO ((g, o0) :: fs) g o = (g, o) :: putO fs g o := by simp [putO]
      have e2 : (List.map (fun kv : Key × V => if kv.1 = Sum.inr g then (kv.1, v) else kv) ((Sum.inr g, v0) :: vs)) = (Sum.inr g, v) :: vs.map fun kv => if kv.1 = Sum.inr g then (kv.1, v) else kv := by simp
      rw [e1, e2]
      exact .cons h (FldR.map h r)
    · have e1 : putO ((g, o0) :: fs) f o = (g, o0) :: putO fs f o := by simp [putO, q]
      have e2 : (List.map (fun kv : Key × V => if kv.1 = Sum.inr f then (kv.1, v) else kv) ((Sum.inr g, v0) :: vs)) = (Sum.inr g, v0) :: vs.map fun kv => if kv.1 = Sum.inr f then (kv.1, v) else kv := by
        have : ¬ ((Sum.inr g : Key) = Sum.inr f) := fun z => q (Sum.inr.inj z)
        simp [this]
      rw [e1, e2]
      exact .cons h0 (FldR.map h r)
theorem FldR.put {c : Cf} {n : Nat} {f : Str} {o : O} {v : V} (h : Hd K c (.fld n f) o v) {fs : List (Str × O)} {vs : List (Key × V)} (r : FldR K c n fs vs) (e : (fs.lookup f).isSome = true) : FldR K c n (putO fs f o) (putK vs (Sum.inr f) v) := by
  unfold putK
  rw [if_pos (r.any e)]
  exact r.map h
/-- a shared dict is written -/
theorem StR.setD {c : Cf} {st : Store} {n : Nat} {a : Addr} {fs : List (Str × O)} {vs : List (Key × V)} (s : StR K c st) (ho : c.ow a = some (.obj n)) (ha : c.ρ[n]? = some a) (r : FldR K (c.wr a (.dK vs)) n fs vs) : StR K (c.wr a (.dK vs)) (st.set n ⟨none, fs⟩) := by
  have fz : Frz c (c.wr a (.dK vs)) := Cf.wr_frz ho
  refine ⟨by rw [List.length_set]; exact s.len, fun k ob h => ?_⟩
  by_cases e : k = n
  · subst e
    have hlt : k < st.length := by
      have := (List.getElem?_eq_some_iff.mp h).1
      rwa [List.length_set] at this
    rw [List.getElem?_set_self hlt] at h
    cases h
    exact ⟨a, ha, .dict rfl ho upd_same r⟩
  · rw [List.getElem?_set_ne (Ne.symm e)] at h
    obtain ⟨b, h1, h2⟩ := s.at_ k ob h
    refine ⟨b, h1, ?_⟩
    cases h2 with
    | dict e1 e2 e3 r' =>
      obtain ⟨g1, g2⟩ := Cf.wr_own (o := .dK vs) ho e2 (fun z => by cases z; exact e rfl)
      exact .dict e1 g1 (g2.trans e3) (r'.keep fz (fun _ _ z => z) fun b f z => Cf.wr_own ho z (fun z => by cases z))
end
section
variable {X : Cx} {m : Bool} {o e : Expr} {fo fe : Ef} {pos tpos kpos : Pos} {j : Nat} {f : Str}
theorem s_fadd (hu : X.A.units + 1 < cLine) (ho : EV true X o fo) (he : EV true X e fe)
    (ha : ∀ ov iv new, augStore (.Constant (.str f) j kpos) ov iv new = (do holding [new, ov, iv] (setItem ov iv new); release [new, ov, iv] []; pure .next) := by intros; rfl) :
    SV X (.AugAssign (.Subscript o (.Constant (.str f) j kpos) tpos) .Add e pos) (fadd_ f fo fe) := by
  refine ⟨(ps_daug hu ho.pe (pe_str (x := f) (j := j) (pos := kpos)) he.pe in_add ha).imp ?_⟩
  intro D σ H h'
  obtain ⟨ow, ρ, env, st, fl, st', S, e, hn, hr⟩ := tS_use h'
  obtain ⟨x, st1, e1, e2⟩ := R.bind_ok e
  obtain ⟨y, st2, e3, e4⟩ := R.bind_ok e2
  clear e e2
  refine ⟨ow, ρ, env, st, S, x, st1, e1, fun vx c1 x1 s1 w1 r1 => ?_⟩
  split at e4
  · rename_i n jj
    split at e4
    · rename_i ob hob
      split at e4
      rotate_left
      · cases e4
      rename_i i hc hf
      split at e4 <;> cases e4
      rename_i h1000
      cases r1 with
      | ref hρ =>
        rename_i a
        obtain ⟨a', g1, g2⟩ := s1.at_ _ _ hob
        rw [hρ] at g1
        cases g1
        cases g2 with
        | dict q1 q2 q3 q4 =>
          rename_i vs
          obtain ⟨v, g3, g4⟩ := q4.look hf
          obtain ⟨pk, _⟩ := g4
          cases pk with
          | w rv =>
            cases rv
            refine ⟨a, .int i, rfl, .inl ⟨vs, Sum.inr f, .inl q3, rfl, g3.symm⟩, ?_⟩
            have S1 : Sm X.K c1 env st1 σ := S.exs x1 s1 w1
            refine ⟨c1.ow, c1.ρ, env, st1, S1, _, _, e3, fun vy c2 x2 s2 w2 r2 => ?_⟩
            cases r2
            have es := x2.st_eq
            subst es
            obtain ⟨g5, g6⟩ := (x2.still rfl).2 a _ q3
            have hρ2 := x2.loc _ _ hρ
            have ho2 : c2.ow a = some (.obj n) := g5.trans q2
            have S2 : Sm X.K c2 env st2 σ := S1.exs x2 s2 w2
            have fz : Frz c2 (c2.wr a (.dK (putK vs (Sum.inr f) (.int (i + jj))))) := Cf.wr_frz ho2
            have r2 : FldR X.K c2 n ob.fs vs := by
              obtain ⟨a2, k1, k2⟩ := s2.at_ _ _ hob
              rw [hρ2] at k1
              cases k1
              cases k2 with
              | dict k3 k4 k5 k6 =>
                rw [g6] at k5
                cases k5
                exact k6
            have hl2 : vs.length < sizeLine := by
              rw [lim_eq, ← r2.length]; exact Nat.lt_trans h1000 (by decide)
            refine ⟨_, _, rfl, rfl, _, .inl ⟨vs, Sum.inr f, g6, rfl, hl2, rfl⟩, ?_⟩
            have r3 : FldR X.K (c2.wr a (.dK (putK vs (Sum.inr f) (.int (i + jj))))) n (putO ob.fs f (.w (.int (i + jj)))) (putK vs (Sum.inr f) (.int (i + jj))) := by
              refine FldR.put ⟨.w (.int _), trivial⟩ ?_ (by rw [hf]; rfl)
              exact r2.keep fz (fun _ _ z => z) fun b g z => Cf.wr_own ho2 z (fun z => by cases z)
            have S3 : EnvR X.K (c2.wr a (.dK (putK vs (Sum.inr f) (.int (i + jj))))) env σ := ⟨S2.e.len, fun k o h => by
              obtain ⟨v, h1, h2⟩ := S2.e.at_ k o h
              exact ⟨v, h1, h2.keep fz (fun _ _ z => z) fun b z => Cf.wr_own ho2 z (fun z => by cases z)⟩⟩
            refine hn env σ (c2.wr a (.dK (putK vs (Sum.inr f) (.int (i + jj))))) rfl ⟨S3, s2.setD ho2 hρ2 r3, Cf.wr_wf w2⟩ ((x1.s.trans x2.s).trans ⟨fz, fun b z => Cf.wr_own ho2 z (fun z => by cases z), fun _ _ z => z⟩)
    · cases e4
  · cases e4
end

/-! ### repr(a) == repr(b) -/
mutual
theorem noDict_of : ∀ d : PyData, d.canLay0 = true → d.hasDict = false
  | .none, _ => by simp [PyData.hasDict]
  | .bool _, _ => by simp [PyData.hasDict]
  | .int _, _ => by simp [PyData.hasDict]
  | .str _, _ => by simp [PyData.hasDict]
  | .list xs, h => by simp only [PyData.canLay0] at h; simp only [PyData.hasDict]; exact noDict_ofL xs h
  | .tuple xs, h => by simp only [PyData.canLay0] at h; simp only [PyData.hasDict]; exact noDict_ofL xs h
  | .dict _, h => by simp [PyData.canLay0] at h
theorem noDict_ofL : ∀ ds : List PyData, PyData.canLayAll0 ds = true → PyData.hasDictAll ds = false
  | [], _ => by simp [PyData.hasDictAll]
  | d :: ds, h => by
    simp only [PyData.canLayAll0, Bool.and_eq_true] at h
    simp [PyData.hasDictAll, noDict_of d h.1, noDict_ofL ds h.2]
end
def reprOk (d : PyData) : Bool := d.showable && decide (d.shown.length ≤ LIM)
def rRepr (K : PySem.W.Frag) : List V → Hp → VK → Prop := fun xs H Q => ∃ v d, xs = [v] ∧ Dp K H v d ∧ SeqAt.shaped d = true ∧ reprOk d = true ∧ Q (.str d.shown) H
theorem call_reprW {X : Cx} (hg : X.A.guards = some []) (hu : X.A.units + 65 < cLine) : CallR X (.builtin "repr") (rRepr X.K) := by
  intro pins s σ H xs us Q I r h
  obtain ⟨v, d, rfl, hd, sh, ok, q⟩ := h
  obtain ⟨u, rfl, rv⟩ := vals1 r
  unfold reprOk at ok
  rw [Bool.and_eq_true, decide_eq_true_eq] at ok
  obtain ⟨ok1, ok2⟩ := ok
  unfold SeqAt.shaped at sh
  rw [Bool.and_eq_true, decide_eq_true_eq] at sh
  cases hd with
  | non => cases rv; exact PySem.P.repr_of_none ⟨.str _, H, I.tok _, ⟨_, rfl⟩, by simpa only [PyData.shown] using q⟩
  | bl b => cases rv; exact PySem.P.repr_of_bool ⟨.str _, H, I.tok _, ⟨_, rfl⟩, by simpa only [PyData.shown] using q⟩
  | int i =>
    obtain ⟨t, rfl⟩ := rv
    exact PySem.P.repr_of_int (by simpa [PyData.showable] using ok1) ⟨.str _, H, I.tok _, ⟨_, rfl⟩, by simpa only [PyData.shown] using q⟩
  | str x =>
    obtain ⟨t, rfl⟩ := rv
    exact PySem.P.repr_of_str (hsz := by simpa only [PyData.shown, lim_eq] using ok2) ⟨.str _, H, I.tok _, ⟨_, rfl⟩, by simpa only [PyData.shown] using q⟩
  | lst h1 h2 =>
    cases rv
    obtain ⟨as, hr⟩ := Dp.reads I _ _ _ (Dp.lst h1 h2) rfl
    exact repr_of_reads' hr ok1 (PyData.noDict_hsm (noDict_of _ sh.1)) hg (by omega) (fun _ _ e => e) (fun h' u tk hk => ⟨.str _, H, I.kept hk, ⟨_, rfl⟩, q⟩) (by rw [lim_eq]; exact ok2)
  | tup h1 h2 =>
    cases rv
    obtain ⟨as, hr⟩ := Dp.reads I _ _ _ (Dp.tup h1 h2) rfl
    exact repr_of_reads' hr ok1 (PyData.noDict_hsm (noDict_of _ sh.1)) hg (by omega) (fun _ _ e => e) (fun h' u tk hk => ⟨.str _, H, I.kept hk, ⟨_, rfl⟩, q⟩) (by rw [lim_eq]; exact ok2)
/-- repr(a) == repr(b) -/
def reqW (x y : W) (st : Store) : R W := if x.fit 60 && y.fit 60 && reprOk x.py && reprOk y.py then .ok (.bl (decide (x.py.shown = y.py.shown))) st else .no
section
variable {X : Cx} {m : Bool} {a b : Expr} {fa fb : Ef} {pos p p2 q q2 : Pos}
theorem scal_str {x y : Str} : scal (.str x) (.str y) = true := by rfl
theorem e_reprEq (hgd : X.A.guards = some []) (hu : X.A.units + 65 < cLine) (gl : Gl X "repr") (hm : X.mg "repr" = none) (ha : OV m m X a fa) (hb : OV m true X b fb)
    (hs1 : starEach [a] X.env = (false, eval a X.env) :: starEach [] X.env := by rfl) (hs2 : starEach [b] X.env = (false, eval b X.env) :: starEach [] X.env := by rfl) (hk : behindInMarks .Eq (.Call (.Name "repr" q) [b] [] q2) = false := by rfl) :
    EV m X (.Compare (.Call (.Name "repr" p) [a] [] p2) [.Eq] [.Call (.Name "repr" q) [b] [] q2] pos) (bin reqW fa fb) := by
  have boot : bootBuiltins "repr" = some (.builtin "repr") := by decide +kernel
  refine ⟨(pe_cmpR op_eq (pe_callB (call_reprW hgd hu) gl hm boot (pa_cons ha.pe pa_nil hs1) (by decide) (by decide) hs1) (pe_callB (call_reprW hgd hu) gl hm boot (pa_cons hb.pe pa_nil hs2) (by decide) (by decide) hs2) hk).imp ?_⟩
  rintro σ H Q ⟨ow, ρ, env, st, S, w, st', e, q⟩
  obtain ⟨x, st1, e1, e2⟩ := R.bind_ok e
  obtain ⟨y, st2, e3, e4⟩ := R.bind_ok e2
  unfold reqW at e4
  split at e4 <;> cases e4
  rename_i hh
  simp only [Bool.and_eq_true] at hh
  obtain ⟨⟨⟨f1, f2⟩, k1⟩, k2⟩ := hh
  refine ⟨ow, ρ, env, st, S, x, st1, e1, fun vx c1 x1 s1 w1 r1 kp => ?_⟩
  obtain ⟨d1, sh1⟩ := r1.dp f1
  refine ⟨vx, _, rfl, d1, sh1, k1, ?_⟩
  refine ⟨c1.ow, c1.ρ, env, st1, S.ext x1 s1 w1, y, _, e3, fun vy c2 x2 s2 w2 r2 _ => ?_⟩
  obtain ⟨d2, sh2⟩ := r2.dp f2
  refine ⟨vy, _, rfl, d2, sh2, k2, scal_str, ?_⟩
  have e5 : decide (V.str x.py.shown = V.str y.py.shown) = decide (x.py.shown = y.py.shown) := by simp
  rw [e5]
  exact q _ c2 (x1.trans x2) s2 w2 (.bl _)

/-! ### ranges as tuples, as lists -/
def trg1_ (fa : Ef) : Ef := fun env st => (fa env st).bind fun x st1 => match x with
  | .int n => if rgOk 0 n then .ok (.tup (rgW 0 n.toNat)) st1 else .no
  | _ => .no
def trg2_ (fa fb : Ef) : Ef := fun env st => (fa env st).bind fun x st1 => (fb env st1).bind fun y st2 => match x, y with
  | .int a, .int b => if rgOk a b then .ok (.tup (rgW a (b - a).toNat)) st2 else .no
  | _, _ => .no
theorem rgOk_iff {a b : Int} (h : rgOk a b = true) : RgOk a b := by
  unfold rgOk at h
  simp only [decide_eq_true_eq] at h
  exact ⟨h.1, h.2.1, h.2.2.1, h.2.2.2.1, by have := h.2.2.2.2; exact this⟩
theorem rep_rg {K : PySem.W.Frag} {H : Hp} {ρ : List Addr} {a b : Int} : RepL K H ρ (rgW a (b - a).toNat) (rgV a b) := by
  have e1 : rgW a (b - a).toNat = ((List.range (b - a).toNat).map fun i : Nat => a + (i : Int)).map W.int := by unfold rgW; rw [List.map_map]; rfl
  have e2 : rgV a b = ((List.range (b - a).toNat).map fun i : Nat => a + (i : Int)).map V.int := by unfold rgV; rw [List.map_map]; rfl
  rw [e1, e2]
  exact repL_ints _
theorem e_tupRg2 {pp : Pos} (hc : X.calm = true) (gt : Gl X "tuple") (hmt : X.mg "tuple" = none) (gr : Gl X "range") (hmr : X.mg "range" = none) (ha : EV m X a fa) (hb : EV m X b fb)
    (na : starEach [a, b] X.env = (false, eval a X.env) :: starEach [b] X.env := by rfl)
    (nb : starEach [b] X.env = (false, eval b X.env) :: starEach [] X.env := by rfl) (hp : (backTo p (starEach [b] X.env)).any (·.1) = false := by rfl)
    (nr : starEach [(.Call (.Name "range" pp) [a, b] [] p)] X.env = (false, eval (.Call (.Name "range" pp) [a, b] [] p) X.env) :: starEach [] X.env := by rfl) :
    EV m X (.Call (.Name "tuple" q) [.Call (.Name "range" pp) [a, b] [] p] [] pos) (trg2_ fa fb) := by
  refine ⟨(pe_tupRg hc gt hmt (prg_2 gr hmr ha.pe hb.pe na nb hp) nr).imp ?_⟩
  rintro σ H Q ⟨ow, ρ, env, st, S, w, st', e, q⟩
  obtain ⟨x, st1, e1, e2⟩ := R.bind_ok e
  obtain ⟨y, st2, e3, e4⟩ := R.bind_ok e2
  refine ⟨ow, ρ, env, st, S, x, st1, e1, fun vx c1 x1 s1 w1 r1 => ?_⟩
  refine ⟨c1.ow, c1.ρ, env, st1, S.ext x1 s1 w1, y, st2, e3, fun vy c2 x2 s2 w2 r2 => ?_⟩
  split at e4
  · split at e4 <;> cases e4
    rename_i hr
    cases r1; cases r2
    refine ⟨_, _, rfl, rfl, rgOk_iff hr, fun p hp => ?_⟩
    obtain ⟨x4, s4, w4, f4⟩ := alloc X.K st' (.tup (rgV _ _)) w2 hp
    refine q _ _ ((x1.trans x2).trans x4.any) (s4 s2) w4 (.tup (.inl (.inl f4)) rep_rg ?_)
    rw [rgW_length]
    exact (rgOk_iff hr).2.2.2.2
  · cases e4
theorem e_tupRg1 {pp : Pos} (hc : X.calm = true) (gt : Gl X "tuple") (hmt : X.mg "tuple" = none) (gr : Gl X "range") (hmr : X.mg "range" = none) (ha : EV m X a fa)
    (na : starEach [a] X.env = (false, eval a X.env) :: starEach [] X.env := by rfl)
    (nr : starEach [(.Call (.Name "range" pp) [a] [] p)] X.env = (false, eval (.Call (.Name "range" pp) [a] [] p) X.env) :: starEach [] X.env := by rfl) :
    EV m X (.Call (.Name "tuple" q) [.Call (.Name "range" pp) [a] [] p] [] pos) (trg1_ fa) := by
  refine ⟨(pe_tupRg hc gt hmt (prg_1 gr hmr ha.pe na) nr).imp ?_⟩
  rintro σ H Q ⟨ow, ρ, env, st, S, w, st', e, q⟩
  obtain ⟨x, st1, e1, e2⟩ := R.bind_ok e
  refine ⟨ow, ρ, env, st, S, x, st1, e1, fun vx c1 x1 s1 w1 r1 => ?_⟩
  split at e2
  · split at e2 <;> cases e2
    rename_i n hr
    cases r1
    have e0 : (n - 0).toNat = n.toNat := by rw [Int.sub_zero]
    refine ⟨_, rfl, rgOk_iff hr, fun p hp => ?_⟩
    obtain ⟨x4, s4, w4, f4⟩ := alloc X.K st' (.tup (rgV 0 n)) w1 hp
    refine q _ _ (x1.trans x4.any) (s4 s1) w4 (.tup (.inl (.inl f4)) (by rw [← e0]; exact rep_rg) ?_)
    rw [rgW_length, ← e0]
    exact (rgOk_iff hr).2.2.2.2
  · cases e2

/-! ### d.get(k, x) -/
def get_ (fo fk fx : Ef) : Ef := fun env st => (fo env st).bind fun d st1 => (fk env st1).bind fun k st2 => (fx env st2).bind fun x st3 => match d, k.key with
  | .dct kvs, some k => .ok ((getW kvs k).getD x) st3
  | _, _ => .no
theorem e_get {o : Expr} {fo fk fx : Ef} (hu : X.A.units + 1 < cLine) (ho : OV m m X o fo) (hk : EV m X a fk) (hx : EV m X b fx) (M : M2 X o "get" p a b q) :
    EV m X (.Call (.Attribute o "get" p) [a, b] [] q) (get_ fo fk fx) := by
  refine ⟨(pe_dget2 hu ho.pe hk.pe hx.pe M).imp ?_⟩
  rintro σ H Q ⟨ow, ρ, env, st, S, w, st', e, q⟩
  obtain ⟨d, st1, e1, e2⟩ := R.bind_ok e
  obtain ⟨k, st2, e3, e4⟩ := R.bind_ok e2
  obtain ⟨x, st3, e5, e6⟩ := R.bind_ok e4
  clear e e2 e4
  split at e6
  · cases e6
    rename_i kvs k' hk'
    refine ⟨ow, ρ, env, st, S, _, st1, e1, fun vd c1 x1 s1 w1 r1 kp => ?_⟩
    obtain ⟨a0, vs, rfl, h1, r, z⟩ := r1.asD
    refine ⟨a0, rfl, .inl ⟨vs, h1⟩, c1.ow, c1.ρ, env, st1, S.ext x1 s1 w1, k, st2, e3, fun vk c2 x2 s2 w2 r2 => ?_⟩
    refine ⟨c2.ow, c2.ρ, env, st2, (S.ext x1 s1 w1).ext x2 s2 w2, x, _, e5, fun vx c3 x3 s3 w3 r3 => ?_⟩
    obtain ⟨a1, us, ea, h2, r', _⟩ := (kp _ _ (x2.trans x3)).asD
    cases ea
    have ek : vk = kV k' := View.key (.of r2) hk'
    have X3 := (x1.trans x2).trans x3
    cases hg : getW kvs k' with
    | none =>
      rw [hg] at q
      refine ⟨none, .inl ⟨us, k', h2, ek, ?_⟩, q _ c3 X3 s3 w3 r3⟩
      have := r'.isSome k'
      rw [hg] at this
      cases hv : valV us k' with
      | none => rfl
      | some v => rw [hv] at this; cases this
    | some y =>
      rw [hg] at q
      obtain ⟨v, g1, g2⟩ := (r'.get k').1 _ hg
      exact ⟨some v, .inl ⟨us, k', h2, ek, g1.symm⟩, q _ c3 X3 s3 w3 g2⟩
  · cases e6
end
end Cr
/-! Cr14: what a printed walk leans on. -/
namespace Cr
open PySem PySem.Spec PyProof.Rows L2

theorem hu1 {k : Nat} {A : Around} (r : Room k A) : A.units + 1 < cLine := by have := r.un; omega
theorem hu64 {k : Nat} {A : Around} (r : Room k A) : A.units + 64 < cLine := by have := r.un; omega
theorem hu65 {k : Nat} {A : Around} (r : Room k A) : A.units + 65 < cLine := by have := r.un; omega
theorem bt_abs : bootBuiltins "abs" = some (.builtin "abs") := by decide +kernel
theorem bt_sum : bootBuiltins "sum" = some (.builtin "sum") := by decide +kernel
theorem bt_max : bootBuiltins "max" = some (.builtin "max") := by decide +kernel
theorem bt_min : bootBuiltins "min" = some (.builtin "min") := by decide +kernel
theorem bt_all : bootBuiltins "all" = some (.builtin "all") := by decide +kernel
theorem bt_any : bootBuiltins "any" = some (.builtin "any") := by decide +kernel
theorem bt_sorted : bootBuiltins "sorted" = some (.builtin "sorted") := by decide +kernel
theorem bt_int : bootBuiltins "int" = some (.type "int") := by decide +kernel
theorem bt_tuple : bootBuiltins "tuple" = some (.type "tuple") := by decide +kernel
theorem bt_list : bootBuiltins "list" = some (.type "list") := by decide +kernel
theorem bt_len : bootBuiltins "len" = some (.builtin "len") := by decide +kernel
/-- a def of the text, as its callers know it -/
structure Callee (P : Program) (w : World) (K : PySem.W.Frag) (mg : Str → Option Value) (base : Heap) (x : Str) (k n : Nat) (f : Df) : Prop where
  ex : ∃ (fA : Addr) (fd : FuncData) (ps : List Str), FnG P w K mg base CX0 k fA fd ps (spF K n f) ∧ mg x = some (.ref fA) ∧ PySem.W.keepIn K (.ref fA) = true ∧ Binds K fd ps []
theorem callee_mk {P : Program} {w : World} {K : PySem.W.Frag} {mg : Str → Option Value} {base : Heap} {x : Str} {k n : Nat} {f : Df} {fA : Addr} {fd : FuncData} {ps : List Str} (h1 : FnG P w K mg base CX0 k fA fd ps (spF K n f)) (h2 : mg x = some (.ref fA)) (h3 : PySem.W.keepIn K (.ref fA) = true) (h4 : Binds K fd ps []) : Callee P w K mg base x k n f := ⟨_, _, _, h1, h2, h3, h4⟩
section
variable {X : Cx} {m : Bool} {k j n : Nat} {x : Str} {p pos : Pos} {e : Expr} {es : List Expr} {fa : Af} {f : Df}
theorem e_callee (C : Callee X.prog X.w X.K X.mg X.base x k n f) (hr : Room j X.A) (hgd : X.A.guards = some []) (hg : Gl X x) (ha : AV m X (e :: es) fa) (hn : ∀ env st ws st', fa env st = .ok ws st' → ws.length = n) (hk : k ≤ j := by decide)
    (hdb : (x == ("__debug__" : Str)) = false := by decide) (he : starEach (e :: es) X.env = (false, eval e X.env) :: starEach es X.env := by rfl) (hpl : (backTo pos (starEach es X.env)).any (·.1) = false := by rfl) :
    EV false X (.Call (.Name x p) (e :: es) [] pos) (call_ f fa) := by
  obtain ⟨fA, fd, ps, h1, h2, h3, h4⟩ := C.ex
  exact e_call h1 (hr.mono hk) hgd hg h2 h3 h4 ha hn hdb he hpl
end
end Cr
/-! Cr15: things turned round, ranges as lists. -/
namespace Cr
open PySem PySem.Spec PyProof.Rows L2

section
variable {prog : Program} {w : World} {A : Around} {E : Value → Shared → Prop} {s : Shared}
theorem applied_rev {sl : Addr} {t : Tok} {n : Nat} {Q : Int × Int × Nat → Shared → Prop} (hs : s.heap.IsSliceOf sl .none .none (.int (-1) t))
    (h : Q ((n : Int) - 1, -1, n) s) : wpAny (model prog w) A (Builtin.Slice.sliceApplied (.ref sl) (pure (n : Int))) Q E s := by
  obtain ⟨os, hos, hcs, hds⟩ := hs
  unfold Builtin.Slice.sliceApplied Builtin.Slice.sliceFields
  refine wpAny_bind (wpAny_bind (wpAny_field hos hds (x := .none) rfl (wpAny_bind (wpAny_field hos hds (x := .none) rfl (wpAny_bind (wpAny_field hos hds (x := .int (-1) t) rfl (wpAny_pure ?_)))))))
  refine wpAny_bind (PyProof.Rows.slicePart_int ?_)
  show wpAny _ _ (if ((-1 : Int) == 0) = true then _ else _) _ _ s
  rw [if_neg (by decide)]
  refine wpAny_bind (PyProof.Rows.slicePart_none (wpAny_bind (PyProof.Rows.slicePart_none (wpAny_bind (wpAny_pure ?_)))))
  have e1 : Builtin.Slice.sliceAdjust none none (-1) (n : Int) = ((n : Int) - 1, -1) := rfl
  have e2 : Builtin.Slice.slicePlaces ((n : Int) - 1) (-1) (-1) = n := by
    unfold Builtin.Slice.slicePlaces
    rw [if_neg (by decide)]
    by_cases hn : (n : Int) - 1 > -1
    · rw [if_pos hn, show (- -1 : Int) = 1 by decide, Int.ediv_one]
      omega
    · rw [if_neg hn]
      omega
  show wpAny _ _ (match Builtin.Slice.sliceAdjust none none (-1) (n : Int) with | (lo, hi) => pure (lo, (-1 : Int), Builtin.Slice.slicePlaces lo hi (-1))) _ _ s
  rw [e1]
  show wpAny _ _ (pure (((n : Int) - 1), (-1 : Int), Builtin.Slice.slicePlaces ((n : Int) - 1) (-1) (-1))) _ _ s
  rw [e2]
  exact wpAny_pure h
theorem pick_rev (xs : Array Value) : ((List.range xs.size).filterMap fun (m : Nat) => xs[((xs.size : Int) - 1 + (m : Int) * -1).toNat]?).toArray = xs.toList.reverse.toArray := by
  congr 1
  have e : ∀ (l : List Nat), (∀ m ∈ l, m < xs.size) → l.filterMap (fun (m : Nat) => xs[((xs.size : Int) - 1 + (m : Int) * -1).toNat]?) = l.filterMap fun m => xs.toList.reverse.toArray[m]? := by
    intro l
    induction l with
    | nil => intro _; rfl
    | cons m l ih =>
      intro h
      have hlt := h m List.mem_cons_self
      have e1 : xs[((xs.size : Int) - 1 + (m : Int) * -1).toNat]? = xs.toList.reverse.toArray[m]? := by
        have a1 : xs.toList.reverse.toArray[m]? = xs.toList.reverse[m]? := List.getElem?_toArray ..
        have a2 : xs.toList.reverse[m]? = xs.toList[xs.toList.length - 1 - m]? := List.getElem?_reverse (by rw [Array.length_toList]; exact hlt)
        rw [a1, a2, Array.length_toList, ← Array.getElem?_toList]
        congr 1
        omega
      rw [List.filterMap_cons, List.filterMap_cons, e1, ih fun x hx => h x (List.mem_cons_of_mem _ hx)]
  rw [e _ fun m hm => List.mem_range.mp hm]
  have := PySem.pick_run xs.toList.reverse.toArray 0 xs.size
  have e2 : (List.range xs.size).map (0 + ·) = List.range xs.size := by
    rw [show ((0 + ·) : Nat → Nat) = id from funext fun k => Nat.zero_add k, List.map_id]
  rw [e2, List.drop_zero, List.take_of_length_le (by simp)] at this
  exact this
theorem getItem_tuple_rev {t sl : Addr} {items : Array Value} {k : Tok} {Q : Value → Shared → Prop} (ht : IsTup s.heap t items) (hs : s.heap.IsSliceOf sl .none .none (.int (-1) k))
    (h : Q (.ref s.heap.objs.size) { s with heap := s.heap.push { cls := .type "tuple", data := .seq items.toList.reverse.toArray } })
    (hsz : items.size ≤ sizeLine) : wpAny (model prog w) A (getItem (.ref t) (.ref sl)) Q E s := by
  have htake : sizeOk (.seq items.toList.reverse.toArray) := by
    show items.toList.reverse.toArray.size ≤ sizeLine
    rw [List.size_toArray, List.length_reverse, Array.length_toList]
    exact hsz
  obtain ⟨os, hos, hcs, hds⟩ := id hs
  have hTs : s.TypeIs (.ref sl) "slice" := ⟨os, hos, hcs⟩
  unfold getItem
  try with_reducible refine wpAny_holding ?_
  first | refine wpAny_bind (wpAny_pure ?_) | skip
  refine wpAny_bind (wpAny_sequenceKey ht.typeIs (by decide) ?_)
  refine wpAny_bind (wpAny_callSpecial?_slot (name := Str.ofString "__getitem__") ht.typeIs PyProof.Rows.slot_tuple_getitem
    (wpAny_call_entry PyProof.Rows.slot_tuple_getitem ht.typeIs PyProof.Rows.entry_tuple_getitem ?_ (PyProof.Rows.args_tuple_getitem _ _)))
  show wpAny _ _ (Builtin.Tuple.tupleItemsOf (.ref t) >>= _) _ _ s
  refine wpAny_bind (PyProof.Rows.tupleItemsOf_ ht ?_)
  refine wpAny_bind (wpAny_typeOf hTs ?_)
  rw [if_pos (by decide)]
  refine wpAny_bind (applied_rev hs ?_)
  have hno : ¬ (((((items.size : Int) - 1) == 0) && ((-1 : Int) == 1) && (items.size == items.size)) = true) := by
    intro q
    rw [Bool.and_eq_true, Bool.and_eq_true] at q
    exact absurd q.1.2 (by decide)
  show wpAny _ _ (if ((((items.size : Int) - 1) == 0) && ((-1 : Int) == 1) && (items.size == items.size)) = true then _ else _) _ _ s
  rw [if_neg hno, pick_rev]
  first
    | exact wpAny_bind (m := Builtin.Tuple.tupleExact _) (wpAny_newObj_type (wpAny_pure ⟨_, rfl, wpAny_pure h⟩) htake)
    | exact wpAny_bind (m := Builtin.Tuple.tupleExact _) (wpAny_newObj_type (wpAny_bind (wpAny_pure (wpAny_pure ⟨_, rfl, wpAny_pure h⟩))) htake)
    | exact wpAny_bind (wpAny_bind (m := Builtin.Tuple.tupleExact _) (wpAny_newObj_type (wpAny_pure (wpAny_pure ⟨_, rfl, wpAny_pure h⟩)) htake))
    | exact wpAny_bind (wpAny_bind (m := Builtin.Tuple.tupleExact _) (wpAny_newObj_type (wpAny_pure ⟨_, rfl, wpAny_pure h⟩) htake))
end
def rRevT (K : PySem.W.Frag) : V → Hp → VK → Prop := fun x H Q => ∃ a xs, x = .ref a ∧ (SqL K H a xs ∧ (∀ p, H p = none → Q (.ref p) (upd H p (.lst xs.reverse))) ∨ SqT K H a xs ∧ ∀ p, H p = none → Q (.ref p) (upd H p (.tup xs.reverse)))
/-- xs[::-1] of a list, of a tuple -/
def revW : W → Store → R W
  | .tup xs, st => .ok (.tup xs.reverse) st
  | .lst xs, st => .ok (.lst xs.reverse) st
  | _, _ => .no
section
variable {X : Cx} {m : Bool} {a b e : Expr} {fa fb fe : Ef} {p q pp pos : Pos}
theorem pe_rev {te : TE} {k : Nat} {p1 p2 p3 pos : Pos} (he : PE X e te) : PE X (.Subscript e (.Slice none none (some (.UnaryOp .USub (.Constant (.int 1) k p1) p2)) p3) pos) (fun σ H Q => te σ H fun x H1 => rRevT X.K x H1 Q) := by
  refine ⟨fun pins s σ H Q I h => ?_⟩
  refine Subscript_ (thn (he.run pins s σ H _ I h) fun v s1 ⟨x, H1, I1, r1, q1⟩ => ?_)
  obtain ⟨a, xs, ex, hq⟩ := q1
  subst ex
  cases r1
  have hst : PO X (some (.UnaryOp .USub (.Constant (.int 1) k p1) p2)) (tPart (tUn (rU fun i => .int (-i)) (tC (.int 1)))) := po_some (pe_un un_neg pe_int)
  refine wpAny_Slice (thn (po_none.run pins s1 σ H1 (fun o H2 => o = none ∧ H2 = H1) I1 ⟨rfl, rfl⟩) fun vl s2 ⟨l, H2, I2, pl, el, e2⟩ => ?_)
  subst el e2
  refine thn (po_none.run pins s2 σ H2 (fun o H3 => o = none ∧ H3 = H2) I2 ⟨rfl, rfl⟩) fun vu s3 ⟨u, H3, I3, pu, eu, e3⟩ => ?_
  subst eu e3
  refine thn (hst.run pins s3 σ H3 (fun o H4 => o = some (-1) ∧ H4 = H3) I3 ⟨1, rfl, -1, rfl, rfl, rfl⟩) fun vs s4 ⟨o, H4, I4, ps, eo, e4⟩ => ?_
  subst eo e4
  have I5 : Inv X pins σ H4 { s4 with heap := s4.heap.push { cls := .type "slice", data := .fields #[vl, vu, vs] } } := I4.kept (t' := s4.toks) fun b ob q => Heap.get?_push_of_some _ q
  show wpAny (model X.prog X.w) X.A (subscriptTail e (.Slice none none (some (.UnaryOp .USub (.Constant (.int 1) k p1) p2)) p3) (.ref a) (.ref s4.heap.objs.size)) (EP X pins σ Q) X.xe { s4 with heap := s4.heap.push { cls := .type "slice", data := .fields #[vl, vu, vs] } }
  rcases hq with ⟨hx, q⟩ | ⟨hx, q⟩
  · obtain ⟨its, r, ht, hz⟩ := I5.list hx
    have hlen := r.length
    refine tail_any (ops := [.ref a, .ref s4.heap.objs.size]) ht.isList.typeIs (PySem.slot_list_getitem.lookup) ?_ (by with_unfolding_all rfl)
    refine wpAny_getItem_list_slice ht.isList (Heap.IsSliceOf.new _ vl vu vs) pl pu ps (by decide) ?_ (by rw [List.size_toArray]; omega)
    rw [PySem.W.krv_pick]
    refine ⟨.ref _, _, I5.laid (t' := s4.toks) (o := .lst xs.reverse) (fun b ob q => Heap.get?_push_of_some _ q) (Nat.le_refl _) ?_, rfl, q _ (I5.hok.fresh (Nat.le_refl _))⟩
    exact ⟨by rw [List.length_reverse]; exact hz, _, 0, r.reverse, Heap.get?_push_size _ rfl⟩
  · obtain ⟨its, r, ht, hz⟩ := I5.tuple hx
    have hlen := r.length
    cases pl
    cases pu
    cases ps
    refine tail_any (ops := [.ref a, .ref s4.heap.objs.size]) ht.typeIs PyProof.Rows.slot_tuple_getitem.lookup ?_ (by with_unfolding_all rfl)
    refine getItem_tuple_rev ht (Heap.IsSliceOf.new _ _ _ _) ?_ (by rw [List.size_toArray]; omega)
    refine ⟨.ref _, _, I5.laid (t' := s4.toks) (o := .tup xs.reverse) (fun b ob q => Heap.get?_push_of_some _ q) (Nat.le_refl _) ?_, rfl, q _ (I5.hok.fresh (Nat.le_refl _))⟩
    exact ⟨by rw [List.length_reverse]; exact hz, _, r.reverse, IsTup.new _ _⟩
theorem e_rev {k : Nat} {p1 p2 p3 pos : Pos} (he : OV m true X e fe) : EV m X (.Subscript e (.Slice none none (some (.UnaryOp .USub (.Constant (.int 1) k p1) p2)) p3) pos) (un revW fe) := by
  refine ⟨(pe_rev he.pe).imp ?_⟩
  rintro σ H Q ⟨ow, ρ, env, st, S, w, st', e, q⟩
  obtain ⟨x, st1, e1, e2⟩ := R.bind_ok e
  refine ⟨ow, ρ, env, st, S, x, st1, e1, fun vx c1 x1 s1 w1 r1 _ => ?_⟩
  unfold revW at e2
  split at e2 <;> cases e2
  · obtain ⟨a, vs, rfl, h1, r, z, _⟩ := r1.asT
    refine ⟨a, vs, rfl, .inr ⟨h1, fun p hp => ?_⟩⟩
    obtain ⟨x4, s4, w4, f4⟩ := alloc X.K st' (.tup vs.reverse) w1 hp
    exact q _ _ (x1.trans x4.any) (s4 s1) w4 (.tup (.inl (.inl f4)) (x4.repL r).reverse (by rw [List.length_reverse]; exact z))
  · obtain ⟨a, vs, rfl, h1, r, z⟩ := r1.asL
    refine ⟨a, vs, rfl, .inl ⟨SqL.of h1, fun p hp => ?_⟩⟩
    obtain ⟨x4, s4, w4, f4⟩ := alloc X.K st' (.lst vs.reverse) w1 hp
    exact q _ _ (x1.trans x4.any) (s4 s1) w4 (.lst f4 (x4.repL r).reverse (by rw [List.length_reverse]; exact z))

/-! ### ranges as lists -/
def lrg1_ (fa : Ef) : Ef := fun env st => (fa env st).bind fun x st1 => match x with
  | .int n => if rgOk 0 n then .ok (.lst (rgW 0 n.toNat)) st1 else .no
  | _ => .no
def lrg2_ (fa fb : Ef) : Ef := fun env st => (fa env st).bind fun x st1 => (fb env st1).bind fun y st2 => match x, y with
  | .int a, .int b => if rgOk a b then .ok (.lst (rgW a (b - a).toNat)) st2 else .no
  | _, _ => .no
theorem e_lstRg2 (hc : X.calm = true) (gt : Gl X "list") (hmt : X.mg "list" = none) (gr : Gl X "range") (hmr : X.mg "range" = none) (ha : EV m X a fa) (hb : EV m X b fb)
    (na : starEach [a, b] X.env = (false, eval a X.env) :: starEach [b] X.env := by rfl)
    (nb : starEach [b] X.env = (false, eval b X.env) :: starEach [] X.env := by rfl) (hp : (backTo p (starEach [b] X.env)).any (·.1) = false := by rfl)
    (nr : starEach [(.Call (.Name "range" pp) [a, b] [] p)] X.env = (false, eval (.Call (.Name "range" pp) [a, b] [] p) X.env) :: starEach [] X.env := by rfl) :
    EV m X (.Call (.Name "list" q) [.Call (.Name "range" pp) [a, b] [] p] [] pos) (lrg2_ fa fb) := by
  refine ⟨(pe_listRg hc gt hmt (prg_2 gr hmr ha.pe hb.pe na nb hp) nr).imp ?_⟩
  rintro σ H Q ⟨ow, ρ, env, st, S, w, st', e, q⟩
  obtain ⟨x, st1, e1, e2⟩ := R.bind_ok e
  obtain ⟨y, st2, e3, e4⟩ := R.bind_ok e2
  refine ⟨ow, ρ, env, st, S, x, st1, e1, fun vx c1 x1 s1 w1 r1 => ?_⟩
  refine ⟨c1.ow, c1.ρ, env, st1, S.ext x1 s1 w1, y, st2, e3, fun vy c2 x2 s2 w2 r2 => ?_⟩
  split at e4
  · split at e4 <;> cases e4
    rename_i hr
    cases r1; cases r2
    refine ⟨_, _, rfl, rfl, rgOk_iff hr, fun p hp => ?_⟩
    obtain ⟨x4, s4, w4, f4⟩ := alloc X.K st' (.lst (rgV _ _)) w2 hp
    refine q _ _ ((x1.trans x2).trans x4.any) (s4 s2) w4 (.lst f4 rep_rg ?_)
    rw [rgW_length]
    exact (rgOk_iff hr).2.2.2.2
  · cases e4
theorem e_lstRg1 (hc : X.calm = true) (gt : Gl X "list") (hmt : X.mg "list" = none) (gr : Gl X "range") (hmr : X.mg "range" = none) (ha : EV m X a fa)
    (na : starEach [a] X.env = (false, eval a X.env) :: starEach [] X.env := by rfl)
    (nr : starEach [(.Call (.Name "range" pp) [a] [] p)] X.env = (false, eval (.Call (.Name "range" pp) [a] [] p) X.env) :: starEach [] X.env := by rfl) :
    EV m X (.Call (.Name "list" q) [.Call (.Name "range" pp) [a] [] p] [] pos) (lrg1_ fa) := by
  refine ⟨(pe_listRg hc gt hmt (prg_1 gr hmr ha.pe na) nr).imp ?_⟩
  rintro σ H Q ⟨ow, ρ, env, st, S, w, st', e, q⟩
  obtain ⟨x, st1, e1, e2⟩ := R.bind_ok e
  refine ⟨ow, ρ, env, st, S, x, st1, e1, fun vx c1 x1 s1 w1 r1 => ?_⟩
  split at e2
  · split at e2 <;> cases e2
    rename_i n hr
    cases r1
    have e0 : (n - 0).toNat = n.toNat := by rw [Int.sub_zero]
    refine ⟨_, rfl, rgOk_iff hr, fun p hp => ?_⟩
    obtain ⟨x4, s4, w4, f4⟩ := alloc X.K st' (.lst (rgV 0 n)) w1 hp
    refine q _ _ (x1.trans x4.any) (s4 s1) w4 (.lst f4 (by rw [← e0]; exact rep_rg) ?_)
    rw [rgW_length, ← e0]
    exact (rgOk_iff hr).2.2.2.2
  · cases e2
end
end Cr
/-! Pl1: plain laws of loops. -/
namespace Cr
open PySem

theorem seq_ok {f g : Sf} {env env1 : Env} {st st1 : Store} {r : R Fl} (h : f env st = .ok (.nx env1) st1) (h2 : g env1 st1 = r) : seq_ f g env st = r := by
  unfold seq_
  rw [h]
  exact h2
theorem seq_rt {f g : Sf} {env : Env} {st st1 : Store} {w : W} (h : f env st = .ok (.rt w) st1) : seq_ f g env st = .ok (.rt w) st1 := by
  unfold seq_
  rw [h]
  rfl
theorem for_ok {fi : If} {b : Bf} {f : Sf} {env : Env} {st st1 : Store} {ws : List W} {r : R Fl} (h : fi env st = .ok ws st1) (h2 : forL b f ws env st1 = r) : for_ fi b f env st = r := by
  unfold for_
  rw [h]
  exact h2
theorem if_t {t : Tf} {f g : Sf} {env : Env} {st st1 : Store} {r : R Fl} (h : t env st = .ok true st1) (h2 : f env st1 = r) : if_ t f g env st = r := by
  unfold if_
  rw [h]
  exact h2
theorem if_f {t : Tf} {f g : Sf} {env : Env} {st st1 : Store} {r : R Fl} (h : t env st = .ok false st1) (h2 : g env st1 = r) : if_ t f g env st = r := by
  unfold if_
  rw [h]
  exact h2
theorem asg_ok {i : Nat} {f : Ef} {env : Env} {st st1 : Store} {w : W} (h : f env st = .ok w st1) : asg_ i f env st = .ok (.nx (env.set i (some (.w w)))) st1 := by
  unfold asg_
  rw [h]
  rfl
theorem ret_ok {f : Ef} {env : Env} {st st1 : Store} {w : W} (h : f env st = .ok w st1) : ret_ f env st = .ok (.rt w) st1 := by
  unfold ret_
  rw [h]
  rfl
theorem run_rt {n : Nat} {body : Sf} {ws : List W} {st st1 : Store} {w : W} (h : body (ws.map (fun w => some (.w w)) ++ List.replicate (n - ws.length) none) st = .ok (.rt w) st1) : run_ n body ws st = .ok w st1 := by
  unfold run_
  rw [h]
  rfl
theorem call_ok {f : Df} {fa : Af} {env : Env} {st st1 st2 : Store} {ws : List W} {w : W} (h : fa env st = .ok ws st1) (h2 : f ws st1 = .ok w st2) : call_ f fa env st = .ok w st2 := by
  unfold call_
  rw [h]
  exact h2
theorem bin_ok {g : W → W → Store → R W} {fa fb : Ef} {env : Env} {st st1 st2 : Store} {x y : W} {r : R W} (h : fa env st = .ok x st1) (h2 : fb env st1 = .ok y st2) (h3 : g x y st2 = r) : bin g fa fb env st = r := by
  unfold bin
  rw [h]
  show (fb env st1).bind _ = _
  rw [h2]
  exact h3
theorem un_ok {g : W → Store → R W} {fa : Ef} {env : Env} {st st1 : Store} {x : W} {r : R W} (h : fa env st = .ok x st1) (h3 : g x st1 = r) : un g fa env st = r := by
  unfold un
  rw [h]
  exact h3
theorem cons_ok {f : Ef} {r : Af} {env : Env} {st st1 st2 : Store} {x : W} {xs : List W} (h : f env st = .ok x st1) (h2 : r env st1 = .ok xs st2) : cons_ f r env st = .ok (x :: xs) st2 := by
  unfold cons_
  rw [h]
  show (r env st1).bind _ = _
  rw [h2]
  rfl
theorem tup_ok {f : Af} {env : Env} {st st1 : Store} {xs : List W} (h : f env st = .ok xs st1) (hl : xs.length ≤ LIM) : tup_ f env st = .ok (.tup xs) st1 := by
  unfold tup_
  rw [h]
  exact if_pos hl
theorem lst_ok {f : Af} {env : Env} {st st1 : Store} {xs : List W} (h : f env st = .ok xs st1) (hl : xs.length ≤ LIM) : lst_ f env st = .ok (.lst xs) st1 := by
  unfold lst_
  rw [h]
  exact if_pos hl
theorem tst_ok {f : Ef} {env : Env} {st st1 : Store} {b : Bool} (h : f env st = .ok (.bl b) st1) : tst_ f env st = .ok b st1 := by
  unfold tst_
  rw [h]
  rfl
theorem frzL_ok {f : Nf} {env : Env} {st st1 : Store} {xs : List W} (h : f env st = .ok (.ol xs) st1) : frzL_ f env st = .ok (.lst xs) st1 := by
  unfold frzL_
  rw [h]
  rfl
theorem comp_ok {fi : If} {vs : List Nat} {b : Bf} {ft : Tf} {fe : Ef} {env : Env} {st st1 st2 : Store} {ws ys : List W} (h : fi env st = .ok ws st1) (h2 : compL vs b ft fe env ws st1 = .ok ys st2) : comp_ fi vs b ft fe env st = .ok (.ol ys) st2 := by
  unfold comp_
  rw [h]
  show (compL vs b ft fe env ws st1).bind _ = _
  rw [h2]
  rfl
theorem not_ok {t : Tf} {env : Env} {st st1 : Store} {b : Bool} (h : t env st = .ok b st1) : not_ t env st = .ok (!b) st1 := by
  unfold not_
  rw [h]
  rfl
theorem rng1_ok {fa : Af} {env : Env} {st st1 : Store} {n : Int} (h : fa env st = .ok [.int n] st1) (hz : rgOk 0 n = true) : rng1_ fa env st = .ok (rgW 0 n.toNat) st1 := by
  unfold rng1_
  rw [h]
  exact if_pos hz
theorem rng2_ok {fa : Af} {env : Env} {st st1 : Store} {a b : Int} (h : fa env st = .ok [.int a, .int b] st1) (hz : rgOk a b = true) : rng2_ fa env st = .ok (rgW a (b - a).toNat) st1 := by
  unfold rng2_
  rw [h]
  exact if_pos hz
theorem forL_cons_ok {b : Bf} {f : Sf} {w : W} {ws : List W} {env env1 env2 : Env} {st st1 : Store} {r : R Fl} (hb : b w env = some env1) (hf : f env1 st = .ok (.nx env2) st1) (h : forL b f ws env2 st1 = r) : forL b f (w :: ws) env st = r := by
  unfold forL
  simp only [hb, hf, R.ok_bind]
  exact h
theorem forL_cons_rt {b : Bf} {f : Sf} {w v : W} {ws : List W} {env env1 : Env} {st st1 : Store} (hb : b w env = some env1) (hf : f env1 st = .ok (.rt v) st1) : forL b f (w :: ws) env st = .ok (.rt v) st1 := by
  unfold forL
  simp only [hb, hf, R.ok_bind]
theorem forL_inv {b : Bf} {f : Sf} (I : Nat → Env → Store → Prop) : ∀ (ws : List W) (i0 : Nat) (env : Env) (st : Store), I i0 env st →
    (∀ i w, ws[i]? = some w → ∀ env st, I (i0 + i) env st → ∃ env1 env2 st2, b w env = some env1 ∧ f env1 st = .ok (.nx env2) st2 ∧ I (i0 + i + 1) env2 st2) → ∃ env' st', forL b f ws env st = .ok (.nx env') st' ∧ I (i0 + ws.length) env' st'
  | [], i0, env, st, h0, _ => ⟨env, st, rfl, h0⟩
  | w :: ws, i0, env, st, h0, hs => by
    obtain ⟨env1, env2, st2, e1, e2, h1⟩ := hs 0 w rfl env st h0
    obtain ⟨env', st', e3, h3⟩ := forL_inv I ws (i0 + 1) env2 st2 h1 fun i w' hw env st h => by
      have := hs (i + 1) w' (by simpa using hw) env st (by rwa [show i0 + (i + 1) = i0 + 1 + i by omega])
      rwa [show i0 + (i + 1) + 1 = i0 + 1 + i + 1 by omega] at this
    refine ⟨env', st', ?_, by rw [List.length_cons, show i0 + (ws.length + 1) = i0 + 1 + ws.length by omega]; exact h3⟩
    unfold forL
    simp only [e1, e2, R.ok_bind]
    exact e3
theorem forL_all {b : Bf} {f : Sf} (I : Nat → Env → Store → Prop) (ws : List W) (env : Env) (st : Store) (h0 : I 0 env st)
    (hs : ∀ i w, ws[i]? = some w → ∀ env st, I i env st → ∃ env1 env2 st2, b w env = some env1 ∧ f env1 st = .ok (.nx env2) st2 ∧ I (i + 1) env2 st2) : ∃ env' st', forL b f ws env st = .ok (.nx env') st' ∧ I ws.length env' st' := by
  obtain ⟨env', st', h1, h2⟩ := forL_inv I ws 0 env st h0 fun i w hw env st h => by
    rw [Nat.zero_add] at h ⊢
    exact hs i w hw env st h
  exact ⟨env', st', h1, by rwa [Nat.zero_add] at h2⟩
/-- a comprehension whose parts are plain -/
theorem compL_eq {vs : List Nat} {b : Bf} {ft : Tf} {fe : Ef} {env : Env} {st : Store} (p : W → Bool) (g : W → W) : ∀ (ws : List W), (∀ w ∈ ws, ∃ env1, b w (wipeE env vs) = some env1 ∧ ft env1 st = .ok (p w) st ∧ (p w = true → fe env1 st = .ok (g w) st)) →
    compL vs b ft fe env ws st = .ok ((ws.filter p).map g) st
  | [], _ => rfl
  | w :: ws, h => by
    obtain ⟨env1, e1, e2, e3⟩ := h w List.mem_cons_self
    have r := compL_eq p g ws fun w' hw => h w' (List.mem_cons_of_mem _ hw)
    unfold compL
    cases hp : p w with
    | true => simp [e1, e2, hp, e3 hp, r]
    | false => simp [e1, e2, hp, r]
/-- a comprehension that draws: what is kept is the thing itself -/
theorem compL_sub {vs : List Nat} {b : Bf} {ft : Tf} {fe : Ef} {env : Env} (I : Store → Prop) : ∀ (ws : List W) (st : Store), I st → (∀ w ∈ ws, ∀ st, I st → ∃ env1 k st1, b w (wipeE env vs) = some env1 ∧ ft env1 st = .ok k st1 ∧ I st1 ∧ fe env1 st1 = .ok w st1) →
    ∃ ys st', compL vs b ft fe env ws st = .ok ys st' ∧ I st' ∧ ys.Sublist ws
  | [], st, h, _ => ⟨[], st, rfl, h, .slnil⟩
  | w :: ws, st, h, hs => by
    obtain ⟨env1, k, st1, e1, e2, h1, e4⟩ := hs w List.mem_cons_self st h
    obtain ⟨ys, st', e3, h3, h4⟩ := compL_sub I ws st1 h1 fun w' hw => hs w' (List.mem_cons_of_mem _ hw)
    cases k with
    | false =>
      refine ⟨ys, st', ?_, h3, h4.cons _⟩
      unfold compL
      simp [e1, e2, e3]
    | true =>
      refine ⟨w :: ys, st', ?_, h3, h4.cons₂ _⟩
      unfold compL
      simp [e1, e2, e3, e4]
/-- all are kept; each result is as P says -/
theorem compL_full {vs : List Nat} {b : Bf} {fe : Ef} {env : Env} (I : Store → Prop) (P : W → Prop) : ∀ (ws : List W) (st : Store), I st → (∀ w ∈ ws, ∀ st, I st → ∃ env1, b w (wipeE env vs) = some env1 ∧
    ∃ y st2, fe env1 st = .ok y st2 ∧ I st2 ∧ P y) → ∃ ys st', compL vs b yes_ fe env ws st = .ok ys st' ∧ I st' ∧ ys.length = ws.length ∧ ∀ y ∈ ys, P y
  | [], st, h, _ => ⟨[], st, rfl, h, rfl, (fun _ h => nomatch h)⟩
  | w :: ws, st, h, hs => by
    obtain ⟨env1, e1, y, st2, e4, h6, h7⟩ := hs w List.mem_cons_self st h
    obtain ⟨ys, st', e3, h3, hl, h5⟩ := compL_full I P ws st2 h6 fun w' hw => hs w' (List.mem_cons_of_mem _ hw)
    refine ⟨y :: ys, st', ?_, h3, by rw [List.length_cons, List.length_cons, hl], fun z hz => ?_⟩
    · unfold compL
      simp [e1, e3, e4, yes_]
    · rcases List.mem_cons.mp hz with rfl | hz
      · exact h7
      · exact h5 z hz

/-! ### values -/
theorem int_fit (n : Nat) (i : Int) : W.fit n (.int i) = true := by cases n <;> rfl
theorem ints_fit (n : Nat) (ns : List Int) : (ns.map W.int).all (W.fit n) = true := by
  rw [List.all_eq_true]
  intro w hw
  obtain ⟨i, _, rfl⟩ := List.mem_map.mp hw
  exact int_fit n i
mutual
theorem eqv_refl : ∀ (n : Nat) (w : W), w.fit n = true → PyData.eqv w.py w.py = true
  | _, .non, _ => by simp [W.py, PyData.eqv]
  | _, .bl b, _ => by simp [W.py, PyData.eqv]
  | _, .int i, _ => by simp [W.py, PyData.eqv]
  | _, .str x, _ => by simp [W.py, PyData.eqv]
  | n + 1, .tup xs, h => by simp only [W.fit] at h; simp [W.py, PyData.eqv, eqv_reflL n xs h]
  | n + 1, .lst xs, h => by simp only [W.fit] at h; simp [W.py, PyData.eqv, eqv_reflL n xs h]
  | 0, .tup xs, h => by simp [W.fit] at h
  | 0, .lst xs, h => by simp [W.fit] at h
  | n, .dct _, h => by cases n <;> simp [W.fit] at h
  | n, .dtt _, h => by cases n <;> simp [W.fit] at h
  | n, .ref _, h => by cases n <;> simp [W.fit] at h
  | n, .scr _, h => by cases n <;> simp [W.fit] at h
theorem eqv_reflL : ∀ (n : Nat) (ws : List W), ws.all (W.fit n) = true → PyData.eqvAll (W.pyL ws) (W.pyL ws) = true
  | _, [], _ => by simp [W.pyL, PyData.eqvAll]
  | n, w :: ws, h => by
    rw [List.all_cons, Bool.and_eq_true] at h
    simp [W.pyL, PyData.eqvAll, eqv_refl n w h.1, eqv_reflL n ws h.2]
end
/-! ### what repr can show: ints below 10 ^ 12, texts of any signs, at most so many -/
mutual
def W.sm : W → Bool
  | .non => true
  | .bl _ => true
  | .int i => decide (i.natAbs < 10 ^ 12)
  | .str x => x.cps.toList.all fun c => decide (c < 16 ^ 8)
  | .tup xs => W.smL xs
  | .lst xs => W.smL xs
  | _ => false
def W.smL : List W → Bool
  | [] => true
  | x :: xs => W.sm x && W.smL xs
end
mutual
def W.wt : W → Nat
  | .int _ => 64
  | .str x => x.length
  | .tup xs => W.wtL xs
  | .lst xs => W.wtL xs
  | _ => 0
def W.wtL : List W → Nat
  | [] => 0
  | x :: xs => W.wt x + 1 + W.wtL xs
end
theorem log_lt {i : Int} (h : i.natAbs < 10 ^ 12) : i.natAbs.log2 < 64 := by
  by_cases e : i.natAbs = 0
  · rw [e]; decide
  · exact (Nat.log2_lt e).mpr (Nat.lt_trans h (by decide))
mutual
theorem sm_ok : ∀ w : W, w.sm = true → w.py.showable = true ∧ w.py.leavesShort 13 = true ∧ w.py.weight ≤ w.wt
  | .non, _ => by simp [W.py, PyData.showable, PyData.leavesShort, PyData.weight]
  | .bl _, _ => by simp [W.py, PyData.showable, PyData.leavesShort, PyData.weight]
  | .int i, h => by
    simp only [W.sm, decide_eq_true_eq] at h
    have h1 := log_lt h
    refine ⟨?_, ?_, ?_⟩
    · simp only [W.py, PyData.showable, decide_eq_true_eq]; omega
    · simp only [W.py, PyData.leavesShort, decide_eq_true_eq]; exact PyData.shown_int_le h
    · simp only [W.py, PyData.weight, W.wt]; split <;> omega
  | .str x, h => by
    simp only [W.sm] at h
    refine ⟨by simp [W.py, PyData.showable], ?_, ?_⟩
    · simp only [W.py, PyData.leavesShort]; exact h
    · simp only [W.py, PyData.weight, W.wt]; exact Nat.le_refl _
  | .tup xs, h => by
    simp only [W.sm] at h
    obtain ⟨a, b, c⟩ := sm_okL xs h
    simp only [W.py, PyData.showable, PyData.leavesShort, PyData.weight, W.wt]
    exact ⟨a, b, c⟩
  | .lst xs, h => by
    simp only [W.sm] at h
    obtain ⟨a, b, c⟩ := sm_okL xs h
    simp only [W.py, PyData.showable, PyData.leavesShort, PyData.weight, W.wt]
    exact ⟨a, b, c⟩
  | .dct _, h => by simp [W.sm] at h
  | .dtt _, h => by simp [W.sm] at h
  | .ref _, h => by simp [W.sm] at h
  | .scr _, h => by simp [W.sm] at h
theorem sm_okL : ∀ ws : List W, W.smL ws = true → PyData.showableAll (W.pyL ws) = true ∧ PyData.leavesShortAll 13 (W.pyL ws) = true ∧ PyData.weightAll (W.pyL ws) ≤ W.wtL ws
  | [], _ => by simp [W.pyL, PyData.showableAll, PyData.leavesShortAll, PyData.weightAll]
  | w :: ws, h => by
    simp only [W.smL, Bool.and_eq_true] at h
    obtain ⟨a, b, c⟩ := sm_ok w h.1
    obtain ⟨a', b', c'⟩ := sm_okL ws h.2
    simp only [W.pyL, PyData.showableAll, PyData.leavesShortAll, PyData.weightAll, W.wtL, a, b, a', b', Bool.and_self, true_and]
    omega
end
theorem reprOk_of {w : W} (h : w.sm = true) (hw : w.wt ≤ 2 ^ 20) : reprOk w.py = true := by
  obtain ⟨a, b, c⟩ := sm_ok w h
  have := PyData.shown_fits (B := 13) (by decide) (by decide) b (Nat.le_trans c hw)
  rw [lim_eq] at this
  unfold reprOk
  rw [a, Bool.true_and, decide_eq_true_eq]
  exact this
theorem ints_sm : ∀ ns : List Int, (∀ n ∈ ns, n.natAbs < 10 ^ 12) → W.smL (ns.map .int) = true
  | [], _ => rfl
  | n :: ns, h => by
    simp only [List.map_cons, W.smL, W.sm, Bool.and_eq_true, decide_eq_true_eq]
    exact ⟨h n List.mem_cons_self, ints_sm ns fun m hm => h m (List.mem_cons_of_mem _ hm)⟩
theorem ints_wt : ∀ ns : List Int, W.wtL (ns.map .int) = 65 * ns.length
  | [] => rfl
  | n :: ns => by
    simp only [List.map_cons, W.wtL, W.wt, ints_wt ns, List.length_cons]
    omega
/-- what _law_same asks of a value -/
def Fine (w : W) : Prop := w.fit 60 = true ∧ w.sm = true ∧ w.wt ≤ 2 ^ 20
theorem fine_int {i : Int} (h : i.natAbs < 10 ^ 12) : Fine (.int i) := ⟨rfl, by simpa [W.sm] using h, by simp [W.wt]⟩
theorem fine_tup {ns : List Int} (h : ∀ n ∈ ns, n.natAbs < 10 ^ 12) (hl : ns.length ≤ 10000) : Fine (.tup (ns.map .int)) := by
  refine ⟨by simp only [W.fit]; exact ints_fit _ ns, by simp only [W.sm]; exact ints_sm ns h, ?_⟩
  simp only [W.wt, ints_wt]
  omega

/-! ### the drawn script -/
def stW (ds : List Int) (k : Int) : Store := [⟨none, [("draws", .w (.lst (ds.map .int))), ("at", .w (.int k))]⟩]
def WS (st : Store) : Prop := ∃ ds k, st = stW ds k ∧ 0 ≤ k
end Cr
/-! Pl2: the drawn script. -/
namespace Cr
open PySem
/-- _law_draws: slots 0 script, 1 many, 2 draws, 3 mixed, 4 k, 5 cell, 6 rest, 7 turn -/
noncomputable def d_turn : Sf := if_ (tst_ (bin gtW (var_ 6) (cst_ (.int 0)))) (seq_ (app_ 2 (bin modW (un intW (var_ 6)) (cst_ (.int 997)))) (asg_ 6 (bin divW (var_ 6) (cst_ (.int 997))))) skip_
noncomputable def d_cell : Sf := if_ (tst_ (bin geW (var_ 5) (bin powW (cst_ (.int 10)) (cst_ (.int 18))))) (asg_ 6 (var_ 5)) (seq_ (app_ 2 (bin modW (un intW (var_ 5)) (cst_ (.int 997)))) (app_ 2 (bin modW (bin modW (un intW (bin addW (bin mulW (var_ 3) (cst_ (.int 69621))) (cst_ (.int 5)))) (cst_ (.int 65521))) (cst_ (.int 997)))))
noncomputable def d_one : Sf := seq_ (asg_ 5 (un absW (un intW (bin ixW (var_ 0) (var_ 4))))) (seq_ (asg_ 3 (bin modW (un intW (bin addW (bin addW (bin mulW (var_ 3) (cst_ (.int 48271))) (bin modW (var_ 5) (cst_ (.int 1000003)))) (var_ 4))) (cst_ (.int 65537)))) (seq_ (asg_ 6 (cst_ (.int 0))) (seq_ d_cell (for_ (rng1_ (cons_ (cst_ (.int 60)) (nil_))) (bN 7) d_turn))))
noncomputable def d_more : Sf := seq_ (asg_ 3 (bin modW (un intW (bin addW (bin addW (bin mulW (var_ 3) (cst_ (.int 16807))) (var_ 4)) (cst_ (.int 1)))) (cst_ (.int 65537)))) (app_ 2 (bin modW (un intW (var_ 3)) (cst_ (.int 997))))
noncomputable def fb_law_draws : Sf := seq_ (own_ 2 (olst_ (nil_))) (seq_ (asg_ 3 (cst_ (.int 7))) (seq_ (for_ (rng1_ (cons_ (un lenW (var_ 0)) (nil_))) (bN 4) d_one) (seq_ (for_ (rng1_ (cons_ (var_ 1) (nil_))) (bN 4) d_more) (ret_ (sl_ (look_ 2) (noPart) (part (var_ 1)))))))
noncomputable def g_law_draws : Df := run_ 8 fb_law_draws
/-- _law_next: slots 0 w, 1 many -/
noncomputable def fb_law_next : Sf := seq_ (fadd_ "at" (var_ 0) (cst_ (.int 1))) (seq_ (if_ (tst_ (bin gtW (bin ixW (var_ 0) (cst_ (.str "at"))) (un lenW (bin ixW (var_ 0) (cst_ (.str "draws")))))) (ret_ (cst_ (.int 0))) (skip_)) (ret_ (bin modW (un intW (bin ixW (bin ixW (var_ 0) (cst_ (.str "draws"))) (bin subW (bin ixW (var_ 0) (cst_ (.str "at"))) (cst_ (.int 1))))) (var_ 1))))
/-- _law_same: slots 0 told, 1 due -/
noncomputable def fb_law_same : Sf := ret_ (andV_ (bin eqW (var_ 0) (var_ 1)) (bin reqW (var_ 0) (var_ 1)))
noncomputable def g_law_next : Df := run_ 2 fb_law_next
noncomputable def g_law_same : Df := run_ 2 fb_law_same

theorem same_spec {w : W} (h : Fine w) (st : Store) : g_law_same [w, w] st = .ok (.bl true) st := by
  obtain ⟨h1, h2, h3⟩ := h
  have e := eqv_refl 60 w h1
  have r := reprOk_of h2 h3
  simp [g_law_same, fb_law_same, run_, ret_, andV_, bin, var_, eqW, reqW, h1, e, r]
theorem look1 {x y : O} : List.lookup ("draws" : Str) [(("draws" : Str), x), ("at", y)] = some x := by simp [List.lookup]
theorem ne_da : (("at" : Str) == "draws") = false := by decide +kernel
theorem look2 {x y : O} : List.lookup ("at" : Str) [(("draws" : Str), x), ("at", y)] = some y := by simp [List.lookup, ne_da]
theorem ne_da' : ¬ (("draws" : Str) = "at") := by decide +kernel
theorem put2 {x y z : O} : putO [(("draws" : Str), x), ("at", y)] "at" z = [(("draws" : Str), x), ("at", z)] := by simp [putO, ne_da']
theorem next_spec {st : Store} (h : WS st) {m : Int} (hm : 0 < m) : ∃ v st', g_law_next [.ref 0, .int m] st = .ok (.int v) st' ∧ 0 ≤ v ∧ v < m ∧ WS st' := by
  obtain ⟨ds, k, rfl, hk⟩ := h
  have hm0 : m ≠ 0 := by omega
  have run1 : fadd_ "at" (var_ 0) (cst_ (.int 1)) [some (.w (.ref 0)), some (.w (.int m))] (stW ds k) = .ok (.nx [some (.w (.ref 0)), some (.w (.int m))]) (stW ds (k + 1)) := by
    simp [fadd_, var_, cst_, stW, look2, put2]
  by_cases hlt : k + 1 > (ds.length : Int)
  · refine ⟨0, stW ds (k + 1), ?_, Int.le_refl _, hm, ds, k + 1, rfl, by omega⟩
    unfold g_law_next run_ fb_law_next seq_
    simp only [List.map_cons, List.map_nil, List.length_cons, List.length_nil, Nat.sub_self, List.replicate_zero, List.append_nil, Nat.reduceAdd, run1, R.ok_bind]
    simp [if_, tst_, bin, un, var_, cst_, gtW, ixW, lenW, stW, look1, look2, ret_, hlt]
  · have hi : ∃ d, ds[k.toNat]? = some d := ⟨ds[k.toNat]'(by omega), List.getElem?_eq_getElem (by omega)⟩
    obtain ⟨d, hd⟩ := hi
    have hat : L2.atI (ds.map W.int) k = some (.int d) := by
      have e1 : L2.ixN (ds.map W.int).length k = some k.toNat := by
        unfold L2.ixN
        rw [List.length_map, if_pos hk, if_pos (by omega)]
      unfold L2.atI
      rw [e1]
      show (ds.map W.int)[k.toNat]? = _
      rw [List.getElem?_map, hd]
      rfl
    refine ⟨d.fmod m, stW ds (k + 1), ?_, Int.fmod_nonneg_of_pos _ hm, Int.fmod_lt_of_pos _ hm, ds, k + 1, rfl, by omega⟩
    unfold g_law_next run_ fb_law_next seq_
    simp only [List.map_cons, List.map_nil, List.length_cons, List.length_nil, Nat.sub_self, List.replicate_zero, List.append_nil, Nat.reduceAdd, run1, R.ok_bind]
    simp [if_, tst_, bin, un, var_, cst_, gtW, subW, ixW, lenW, intW, modW, stW, look1, look2, ret_, hlt, hat, skip_, hm0]
/-! ### _law_draws -/
theorem setL {xs : List (Option O)} {i : Nat} {v : Option O} {j : Nat} (h : j ≠ i) : (xs.set i v)[j]? = xs[j]? := List.getElem?_set_ne (Ne.symm h)
/-- the frame of _law_draws -/
def DE (ns : List Int) (m : Int) (acc : List Int) (mx : Int) (a b c d : Option O) : Env := [some (.w (.scr ns)), some (.w (.int m)), some (.ol (acc.map .int)), some (.w (.int mx)), a, b, c, d]
theorem app_int {acc : List Int} {ns : List Int} {m mx v : Int} {a b c d : Option O} {st st' : Store} {f : Ef} (hf : f (DE ns m acc mx a b c d) st = .ok (.int v) st') (hl : acc.length < LIM) :
    app_ 2 f (DE ns m acc mx a b c d) st = .ok (.nx (DE ns m (acc ++ [v]) mx a b c d)) st' := by
  unfold app_
  rw [hf]
  simp [DE, hl]
theorem small48271 : small 48271 = true := by decide
theorem small69621 : small 69621 = true := by decide
theorem small16807 : small 16807 = true := by decide
theorem turn_step {ns acc : List Int} {m mx r : Int} {a b d : Option O} {st : Store} (hl : acc.length < LIM) :
    ∃ acc' r', d_turn (DE ns m acc mx a b (some (.w (.int r))) d) st = .ok (.nx (DE ns m acc' mx a b (some (.w (.int r'))) d)) st ∧ acc'.length ≤ acc.length + 1 := by
  by_cases h : r > 0
  · refine ⟨acc ++ [r.fmod 997], r.fdiv 997, ?_, by simp⟩
    simp [d_turn, if_, tst_, bin, un, var_, cst_, gtW, intW, modW, divW, seq_, asg_, app_, DE, h, hl]
  · refine ⟨acc, r, ?_, by omega⟩
    simp [d_turn, if_, tst_, bin, un, var_, cst_, gtW, DE, h, skip_]
theorem rgW_get {lo : Int} {n i : Nat} {w : W} (h : (rgW lo n)[i]? = some w) : w = .int (lo + (i : Nat)) ∧ i < n := by
  unfold rgW at h
  rw [List.getElem?_map] at h
  obtain ⟨j, h1, h2⟩ := Option.map_eq_some_iff.mp h
  have hlt := (List.getElem?_eq_some_iff.mp h1).1
  rw [List.length_range] at hlt
  rw [List.getElem?_range hlt] at h1
  cases h1
  exact ⟨h2.symm, hlt⟩
theorem rgOk_small {a b : Int} (h1 : -1000000 ≤ a) (h2 : a ≤ 1000000) (h3 : -1000000 ≤ b) (h4 : b ≤ 1000000) : rgOk a b = true := by
  unfold rgOk
  rw [decide_eq_true_eq]
  refine ⟨by omega, by omega, by omega, by omega, ?_⟩
  show (b - a).toNat ≤ 16777216
  omega
theorem turns_step {ns acc : List Int} {m mx r : Int} {a b d : Option O} {st : Store} (hl : acc.length ≤ 200000) :
    ∃ acc' r' d', for_ (rng1_ (cons_ (cst_ (.int 60)) (nil_))) (bN 7) d_turn (DE ns m acc mx a b (some (.w (.int r))) d) st = .ok (.nx (DE ns m acc' mx a b (some (.w (.int r'))) d')) st ∧ acc'.length ≤ acc.length + 60 := by
  have hr : rng1_ (cons_ (cst_ (.int 60)) (nil_)) (DE ns m acc mx a b (some (.w (.int r))) d) st = .ok (rgW 0 60) st := by
    have : rgOk 0 60 = true := rgOk_small (by omega) (by omega) (by omega) (by omega)
    exact rng1_ok (by simp [cons_, nil_, cst_]) this
  obtain ⟨env', st', e, acc', r', d', h1, h2, h3⟩ := forL_all (b := bN 7) (f := d_turn) (fun i env s => ∃ acc' r' d', env = DE ns m acc' mx a b (some (.w (.int r'))) d' ∧ s = st ∧ acc'.length ≤ acc.length + i) (rgW 0 60)
    (DE ns m acc mx a b (some (.w (.int r))) d) st ⟨acc, r, d, rfl, rfl, by omega⟩ (fun i w hi env s ⟨acc', r', d', h1, h2, h3⟩ => by
      subst h1 h2
      have hlt := (rgW_get hi).2
      have hL : acc'.length < LIM := by show acc'.length < 16777216; omega
      obtain ⟨acc2, r2, e, h⟩ := turn_step (ns := ns) (acc := acc') (m := m) (mx := mx) (r := r') (a := a) (b := b) (d := some (.w w)) (st := s) hL
      exact ⟨_, _, s, rfl, e, acc2, r2, _, rfl, rfl, by omega⟩)
  subst h1 h2
  refine ⟨acc', r', d', ?_, by rw [rgW_length] at h3; exact h3⟩
  exact for_ok hr e
theorem cell_step {ns acc : List Int} {m mx v r : Int} {a d : Option O} {st : Store} (hl : acc.length ≤ 100000) :
    ∃ acc' r', d_cell (DE ns m acc mx a (some (.w (.int v))) (some (.w (.int r))) d) st = .ok (.nx (DE ns m acc' mx a (some (.w (.int v))) (some (.w (.int r'))) d)) st ∧ acc'.length ≤ acc.length + 2 := by
  have hL : acc.length < LIM := by show acc.length < 16777216; omega
  have hL2 : acc.length + 1 < LIM := by show acc.length + 1 < 16777216; omega
  have hp : powW (.int 10) (.int 18) st = .ok (.int (10 ^ 18)) st := by simp [powW]
  by_cases h : (10 : Int) ^ 18 ≤ v
  · refine ⟨acc, v, ?_, by omega⟩
    have h' : (1000000000000000000 : Int) ≤ v := by simpa using h
    simp [d_cell, if_, tst_, bin, var_, cst_, powW, geW, DE, asg_, h']
  · refine ⟨acc ++ [v.fmod 997] ++ [((mx * 69621 + 5).fmod 65521).fmod 997], r, ?_, by simp⟩
    have h' : ¬ (1000000000000000000 : Int) ≤ v := by simpa using h
    simp [d_cell, if_, tst_, bin, un, var_, cst_, powW, geW, DE, asg_, h', seq_, app_, modW, intW, mulW, addW, small69621, hL, hL2]
theorem one_step {ns acc : List Int} {m mx : Int} {i : Nat} {n : Int} {b c d : Option O} {st : Store} (hi : ns[i]? = some n) (hl : acc.length ≤ 100000) :
    ∃ acc' mx' b' c' d', d_one (DE ns m acc mx (some (.w (.int i))) b c d) st = .ok (.nx (DE ns m acc' mx' (some (.w (.int i))) b' c' d')) st ∧ acc'.length ≤ acc.length + 62 := by
  have hlt := (List.getElem?_eq_some_iff.mp hi).1
  have hat : L2.atI ns (i : Int) = some n := by
    unfold L2.atI L2.ixN
    rw [if_pos (by omega), if_pos (by omega)]
    simpa using hi
  obtain ⟨v, hv⟩ : ∃ v : Int, (if n < 0 then -n else n) = v := ⟨_, rfl⟩
  obtain ⟨mx2, hx⟩ : ∃ mx2 : Int, (mx * 48271 + v.fmod 1000003 + (i : Int)).fmod 65537 = mx2 := ⟨_, rfl⟩
  obtain ⟨acc1, r1, e1, l1⟩ := cell_step (ns := ns) (acc := acc) (m := m) (mx := mx2) (v := v) (r := 0) (a := some (.w (.int i))) (d := d) (st := st) hl
  obtain ⟨acc2, r2, d2, e2, l2⟩ := turns_step (ns := ns) (acc := acc1) (m := m) (mx := mx2) (r := r1) (a := some (.w (.int i))) (b := some (.w (.int v))) (d := d) (st := st) (by omega)
  refine ⟨acc2, mx2, some (.w (.int v)), some (.w (.int r2)), d2, ?_, by omega⟩
  have s1 : asg_ 5 (un absW (un intW (bin ixW (var_ 0) (var_ 4)))) (DE ns m acc mx (some (.w (.int i))) b c d) st = .ok (.nx (DE ns m acc mx (some (.w (.int i))) (some (.w (.int v))) c d)) st := by
    simp [asg_, un, bin, var_, DE, ixW, hat, intW, absW, hv]
  have s2 : asg_ 3 (bin modW (un intW (bin addW (bin addW (bin mulW (var_ 3) (cst_ (.int 48271))) (bin modW (var_ 5) (cst_ (.int 1000003)))) (var_ 4))) (cst_ (.int 65537))) (DE ns m acc mx (some (.w (.int i))) (some (.w (.int v))) c d) st = .ok (.nx (DE ns m acc mx2 (some (.w (.int i))) (some (.w (.int v))) c d)) st := by
    simp [asg_, un, bin, var_, cst_, DE, modW, intW, addW, mulW, small48271, hx]
  have s3 : asg_ 6 (cst_ (.int 0)) (DE ns m acc mx2 (some (.w (.int i))) (some (.w (.int v))) c d) st = .ok (.nx (DE ns m acc mx2 (some (.w (.int i))) (some (.w (.int v))) (some (.w (.int 0))) d)) st := by
    simp [asg_, cst_, DE]
  exact seq_ok s1 (seq_ok s2 (seq_ok s3 (seq_ok e1 e2)))
theorem draws_spec (ns : List Int) (hl : ns.length ≤ 63) (m : Int) (h0 : 0 ≤ m) (h1 : m ≤ 1000) (st : Store) : ∃ ds : List Int, g_law_draws [.scr ns, .int m] st = .ok (.lst (ds.map .int)) st := by
  let S : Nat → Nat → Env → Store → Prop := fun B i env s => ∃ acc mx a b c d, env = DE ns m acc mx a b c d ∧ s = st ∧ acc.length ≤ B * i
  have r1 : ∀ acc mx a b c d, rng1_ (cons_ (un lenW (var_ 0)) (nil_)) (DE ns m acc mx a b c d) st = .ok (rgW 0 ns.length) st := fun acc mx a b c d => by
    have : rgOk 0 ns.length = true := rgOk_small (by omega) (by omega) (by omega) (by omega)
    exact rng1_ok (n := (ns.length : Int)) (by simp [cons_, nil_, un, var_, DE, lenW]) this
  have r2 : ∀ acc mx a b c d, rng1_ (cons_ (var_ 1) (nil_)) (DE ns m acc mx a b c d) st = .ok (rgW 0 m.toNat) st := fun acc mx a b c d => by
    have : rgOk 0 m = true := rgOk_small (by omega) (by omega) (by omega) (by omega)
    exact rng1_ok (by simp [cons_, nil_, var_, DE]) this
  obtain ⟨env1, st1, e1, acc, mx, a, b, c, d, q1, q2, q3⟩ := forL_all (b := bN 4) (f := d_one) (S 62) (rgW 0 ns.length) (DE ns m [] 7 none none none none) st ⟨[], 7, none, none, none, none, rfl, rfl, Nat.zero_le _⟩ (fun i w hi env s ⟨acc, mx, a, b, c, d, h1, h2, h3⟩ => by
    subst h1 h2
    obtain ⟨rfl, hlt⟩ := rgW_get hi
    obtain ⟨acc', mx', b', c', d', e, h⟩ := one_step (ns := ns) (acc := acc) (m := m) (mx := mx) (i := i) (b := b) (c := c) (d := d) (st := s) (List.getElem?_eq_getElem hlt) (by omega)
    refine ⟨DE ns m acc mx (some (.w (.int i))) b c d, _, s, by simp [bN, DE], e, acc', mx', _, b', c', d', rfl, rfl, by omega⟩)
  subst q1 q2
  rw [rgW_length] at q3
  obtain ⟨env2, st2, e2, acc2, mx2, a2, b2, c2, d2, p1, p2, p3⟩ := forL_all (b := bN 4) (f := d_more) (fun i env s => ∃ acc2 mx a b c d, env = DE ns m acc2 mx a b c d ∧ s = st1 ∧ acc2.length ≤ acc.length + i) (rgW 0 m.toNat) (DE ns m acc mx a b c d) st1 ⟨acc, mx, a, b, c, d, rfl, rfl, by omega⟩ (fun i w hi env s ⟨acc2, mx, a, b, c, d, h1, h2, h3⟩ => by
    subst h1 h2
    obtain ⟨rfl, hlt⟩ := rgW_get hi
    have hL : acc2.length < LIM := by show acc2.length < 16777216; omega
    refine ⟨DE ns m acc2 mx (some (.w (.int i))) b c d, DE ns m (acc2 ++ [((mx * 16807 + (i : Int) + 1).fmod 65537).fmod 997]) ((mx * 16807 + (i : Int) + 1).fmod 65537) (some (.w (.int i))) b c d, s, by simp [bN, DE], ?_, _, _, _, _, _, _, rfl, rfl, by rw [List.length_append, List.length_singleton]; omega⟩
    simp [d_more, seq_, asg_, app_, un, bin, var_, cst_, DE, modW, intW, addW, mulW, small16807, hL])
  subst p1 p2
  refine ⟨cutW acc2 none (some m), ?_⟩
  have o1 : own_ 2 (olst_ (nil_)) (List.map (fun w => some (O.w w)) [W.scr ns, W.int m] ++ List.replicate (8 - [W.scr ns, W.int m].length) none) st2 = .ok (.nx [some (.w (.scr ns)), some (.w (.int m)), some (.ol []), none, none, none, none, none]) st2 := by
    simp [own_, olst_, nil_, O.isNew, List.replicate]
  have o2 : asg_ 3 (cst_ (.int 7)) [some (.w (.scr ns)), some (.w (.int m)), some (.ol []), none, none, none, none, none] st2 = .ok (.nx (DE ns m [] 7 none none none none)) st2 := by
    simp [asg_, cst_, DE]
  have cut : cutW (acc2.map W.int) none (some m) = (cutW acc2 none (some m)).map W.int := by
    unfold cutW
    simp [List.map_take, List.map_drop]
  have o3 : ret_ (sl_ (look_ 2) (noPart) (part (var_ 1))) (DE ns m acc2 mx2 a2 b2 c2 d2) st2 = .ok (.rt (.lst ((cutW acc2 none (some m)).map W.int))) st2 := by
    simp [ret_, sl_, look_, DE, O.view, noPart, part, var_, slW, cut]
  exact run_rt (seq_ok o1 (seq_ok o2 (seq_ok (for_ok (r1 ..) e1) (seq_ok (for_ok (r2 ..) e2) o3))))
end Cr
/-! Pl3: dicts with int keys, sorted lists, least ones. -/
namespace Cr
open PySem PySem.Spec PyProof.Rows L2

theorem getW_put (kvs : List (Key × W)) (k k' : Key) (v : W) : getW (putW kvs k v) k' = if k' = k then some v else getW kvs k' := by
  unfold putW
  by_cases ha : (kvs.any fun kv => decide (kv.1 = k)) = true
  · rw [if_pos ha]
    induction kvs with
    | nil => simp at ha
    | cons p r ih =>
      rw [List.map_cons]
      by_cases hp : p.1 = k
      · rw [if_pos hp]
        by_cases hk : k' = k
        · rw [if_pos hk]
          exact getW_pos (p := (p.1, v)) (by rw [hk]; exact hp)
        · rw [if_neg hk, getW_neg (p := (p.1, v)) (fun z => hk (z.symm.trans hp)), getW_neg (p := p) (fun z => hk (z.symm.trans hp))]
          by_cases hr : (r.any fun kv => decide (kv.1 = k)) = true
          · have := ih hr
            rwa [if_neg hk] at this
          · have e : (r.map fun kv => if kv.1 = k then (kv.1, v) else kv) = r := by
              have h2 : ∀ kv ∈ r, ¬ kv.1 = k := fun kv hm z => hr (List.any_eq_true.mpr ⟨kv, hm, by simpa using z⟩)
              conv => rhs; rw [← List.map_id r]
              exact List.map_congr_left fun kv hm => by rw [if_neg (h2 kv hm)]; rfl
            rw [e]
      · rw [if_neg hp]
        have hr : (r.any fun kv => decide (kv.1 = k)) = true := by
          rw [List.any_cons] at ha
          simpa [hp] using ha
        by_cases hq : p.1 = k'
        · rw [getW_pos hq, getW_pos hq, if_neg (fun z => hp (hq.trans z))]
        · rw [getW_neg hq, getW_neg hq]
          exact ih hr
  · rw [if_neg ha]
    have h2 : ∀ kv ∈ kvs, ¬ kv.1 = k := fun kv hm z => ha (List.any_eq_true.mpr ⟨kv, hm, by simpa using z⟩)
    clear ha
    induction kvs with
    | nil =>
      by_cases hk : k' = k
      · rw [if_pos hk]; exact getW_pos (p := (k, v)) hk.symm
      · rw [if_neg hk]; exact getW_neg (p := (k, v)) (Ne.symm hk)
    | cons p r ih =>
      have ih := ih fun kv hm => h2 kv (List.mem_cons_of_mem _ hm)
      rw [List.cons_append]
      by_cases hq : p.1 = k'
      · rw [getW_pos hq, getW_pos hq, if_neg (fun z => h2 p List.mem_cons_self (hq.trans z))]
      · rw [getW_neg hq, getW_neg hq]
        exact ih
def dstep (ks : List Int) (x : Int) : List Int := if x ∈ ks then ks else ks ++ [x]
/-- each once, as first met -/
def dst (xs : List Int) : List Int := xs.foldl dstep []
theorem keysI_some : ∀ {kvs : List (Key × W)} {ks : List Int}, keysI kvs = some ks ↔ kvs.map (·.1) = ks.map Sum.inl
  | [], ks => by
    constructor
    · intro h; cases h; rfl
    · intro h
      cases ks with
      | nil => rfl
      | cons _ _ => simp at h
  | (.inl i, v) :: r, ks => by
    constructor
    · exact keysI_eq
    · intro h
      cases ks with
      | nil => simp at h
      | cons k ks =>
        rw [List.map_cons, List.map_cons, List.cons.injEq] at h
        have h1 : Sum.inl i = Sum.inl k := h.1
        cases h1
        simp only [keysI, (keysI_some (kvs := r) (ks := ks)).mpr h.2, Option.map_some]
  | (.inr i, v) :: r, ks => by
    constructor
    · intro h; cases h
    · intro h
      cases ks with
      | nil => simp at h
      | cons k ks =>
        rw [List.map_cons, List.map_cons, List.cons.injEq] at h
        have h1 : Sum.inr i = Sum.inl k := h.1
        cases h1
theorem keysI_put {kvs : List (Key × W)} {ks : List Int} (h : keysI kvs = some ks) (x : Int) (v : W) : keysI (putW kvs (.inl x) v) = some (dstep ks x) := by
  rw [keysI_some] at h ⊢
  have hm : (kvs.any fun kv => decide (kv.1 = Sum.inl x)) = true ↔ x ∈ ks := by
    rw [List.any_eq_true]
    constructor
    · rintro ⟨kv, h1, h2⟩
      have : kv.1 ∈ kvs.map (·.1) := List.mem_map.mpr ⟨kv, h1, rfl⟩
      rw [h, of_decide_eq_true h2] at this
      obtain ⟨y, h3, h4⟩ := List.mem_map.mp this
      cases h4; exact h3
    · intro hx
      have : (Sum.inl x : Key) ∈ kvs.map (·.1) := by rw [h]; exact List.mem_map.mpr ⟨x, hx, rfl⟩
      obtain ⟨kv, h3, h4⟩ := List.mem_map.mp this
      exact ⟨kv, h3, decide_eq_true h4⟩
  unfold putW dstep
  by_cases hx : x ∈ ks
  · rw [if_pos (hm.mpr hx), if_pos hx, List.map_map, ← h]
    refine List.map_congr_left fun kv _ => ?_
    show (if kv.1 = Sum.inl x then (kv.1, v) else kv).1 = kv.1
    split <;> rfl
  · rw [if_neg (fun z => hx (hm.mp z)), if_neg hx, List.map_append, List.map_append, h]
    rfl
theorem mem_dstep {ks : List Int} {x y : Int} : y ∈ dstep ks x ↔ y ∈ ks ∨ y = x := by
  unfold dstep
  by_cases hx : x ∈ ks
  · rw [if_pos hx]
    exact ⟨.inl, fun h => h.elim id fun e => e ▸ hx⟩
  · rw [if_neg hx]; simp
theorem nodup_dstep {ks : List Int} {x : Int} (h : ks.Nodup) : (dstep ks x).Nodup := by
  unfold dstep
  by_cases hx : x ∈ ks
  · rw [if_pos hx]; exact h
  · rw [if_neg hx, List.nodup_append]
    exact ⟨h, by simp, fun a ha b hb => by rw [List.mem_singleton.mp hb]; intro e; exact hx (e ▸ ha)⟩
theorem length_dstep {ks : List Int} {x : Int} : (dstep ks x).length ≤ ks.length + 1 := by
  unfold dstep
  split
  · omega
  · rw [List.length_append]; exact Nat.le_refl _
theorem dfold_mem : ∀ (xs ks : List Int) (y : Int), y ∈ xs.foldl dstep ks ↔ y ∈ ks ∨ y ∈ xs
  | [], ks, y => by simp
  | x :: xs, ks, y => by
    rw [List.foldl_cons, dfold_mem xs, mem_dstep, List.mem_cons, or_assoc]
theorem dfold_nodup : ∀ (xs ks : List Int), ks.Nodup → (xs.foldl dstep ks).Nodup
  | [], _, h => h
  | x :: xs, ks, h => dfold_nodup xs _ (nodup_dstep h)
theorem dfold_length : ∀ (xs ks : List Int), (xs.foldl dstep ks).length ≤ ks.length + xs.length
  | [], _ => by simp
  | x :: xs, ks => by
    have := dfold_length xs (dstep ks x)
    have := length_dstep (ks := ks) (x := x)
    rw [List.foldl_cons, List.length_cons]; omega
theorem mem_dst {xs : List Int} {y : Int} : y ∈ dst xs ↔ y ∈ xs := by unfold dst; rw [dfold_mem]; simp
theorem nodup_dst (xs : List Int) : (dst xs).Nodup := dfold_nodup xs [] List.nodup_nil
theorem length_dst (xs : List Int) : (dst xs).length ≤ xs.length := by have := dfold_length xs []; simpa [dst] using this
theorem dst_snoc (xs : List Int) (x : Int) : dst (xs ++ [x]) = dstep (dst xs) x := by unfold dst; rw [List.foldl_append]; rfl
/-- {x: True ..} -/
abbrev trues (xs : List Int) : List (Key × W) := xs.map fun x => (Sum.inl x, W.bl true)
theorem keys_trues : ∀ (xs : List Int) {kvs : List (Key × W)} {ks : List Int}, keysI kvs = some ks → keysI (mergeW kvs (trues xs)) = some (xs.foldl dstep ks)
  | [], _, _, h => h
  | x :: xs, kvs, ks, h => keys_trues xs (kvs := putW kvs (.inl x) (.bl true)) (keysI_put h x _)
theorem mergeW_append (kvs a b : List (Key × W)) : mergeW kvs (a ++ b) = mergeW (mergeW kvs a) b := by unfold mergeW; rw [List.foldl_append]
/-! ### strictly rising lists -/
theorem sort_lt {xs : List Int} (h : xs.Nodup) : (sortI xs).Pairwise (· < ·) := by
  have h1 := sortI_sorted xs
  have h2 : (sortI xs).Nodup := (sortI_perm xs).nodup_iff.mpr h
  exact (h1.and h2).imp fun ⟨a, b⟩ => by omega
theorem mem_sort {xs : List Int} {y : Int} : y ∈ sortI xs ↔ y ∈ xs := (sortI_perm xs).mem_iff
theorem rising_take (k : Nat) : ∀ (S : List Int) (lo : Int), S.Pairwise (· < ·) → (∀ x ∈ S, lo ≤ x) → (∀ j : Nat, j < k → lo + (j : Int) ∈ S) → S.take k = (List.range k).map fun j : Nat => lo + (j : Int) := by
  induction k with
  | zero => intro S lo _ _ _; simp
  | succ k ih =>
    intro S lo hp hl hm
    cases S with
    | nil =>
      have := hm 0 (by omega)
      cases this
    | cons s S =>
      rw [List.pairwise_cons] at hp
      have hs : s = lo := by
        have h0 : lo ∈ s :: S := by simpa using hm 0 (by omega)
        have h1 := hl s List.mem_cons_self
        rcases List.mem_cons.mp h0 with e | e
        · exact e.symm
        · have := hp.1 lo e; omega
      subst hs
      have e := ih S (s + 1) hp.2 (fun x hx => by have := hp.1 x hx; omega) fun j hj => by
        have := hm (j + 1) (by omega)
        rcases List.mem_cons.mp this with e | e
        · omega
        · rwa [show s + 1 + (j : Int) = s + ((j + 1 : Nat) : Int) by omega]
      rw [List.take_succ_cons, e, List.range_succ_eq_map, List.map_cons, List.map_map]
      congr 1
      · simp
      · refine List.map_congr_left fun j _ => ?_
        show s + 1 + (j : Int) = s + ((j + 1 : Nat) : Int)
        omega
theorem rising_filter : ∀ (S : List Int) (i : Int), S.Pairwise (· < ·) → S.filter (fun x => decide (x < i)) = S.take (S.filter fun x => decide (x < i)).length
  | [], _, _ => rfl
  | s :: S, i, h => by
    rw [List.pairwise_cons] at h
    by_cases hs : s < i
    · rw [List.filter_cons_of_pos (by simpa using hs), List.length_cons, List.take_succ_cons, ← rising_filter S i h.2]
    · have e : S.filter (fun x => decide (x < i)) = [] := by
        rw [List.filter_eq_nil_iff]
        intro x hx
        have := h.1 x hx
        simp only [decide_eq_true_eq]; omega
      rw [List.filter_cons_of_neg (by simpa using hs), e]; rfl
theorem rising_next : ∀ (S : List Int) (i : Int), S.Pairwise (· < ·) → S.filter (fun x => decide (x < i + 1)) = S.filter (fun x => decide (x < i)) ++ if i ∈ S then [i] else []
  | [], _, _ => rfl
  | s :: S, i, h => by
    rw [List.pairwise_cons] at h
    have ih := rising_next S i h.2
    by_cases hs : s < i
    · have e : (i ∈ s :: S) ↔ i ∈ S := by
        rw [List.mem_cons]
        exact ⟨fun z => z.resolve_left (by omega), .inr⟩
      rw [List.filter_cons_of_pos (by simp only [decide_eq_true_eq]; omega), List.filter_cons_of_pos (by simpa using hs), ih, List.cons_append]
      simp only [e]
    · have e : ∀ j, j ≤ i + 1 → S.filter (fun x => decide (x < j)) = [] := fun j hj => by
        rw [List.filter_eq_nil_iff]
        intro x hx
        have := h.1 x hx
        simp only [decide_eq_true_eq]; omega
      by_cases hi : s = i
      · subst hi
        rw [List.filter_cons_of_pos (by simp only [decide_eq_true_eq]; omega), List.filter_cons_of_neg (by simp), e _ (Int.le_refl _), e _ (by omega), if_pos List.mem_cons_self]; rfl
      · rw [List.filter_cons_of_neg (by simp only [decide_eq_true_eq]; omega), List.filter_cons_of_neg (by simpa using hs), e _ (Int.le_refl _), e _ (by omega), if_neg]; rfl
        intro z
        rcases List.mem_cons.mp z with z | z
        · exact hi z.symm
        · have := h.1 i z; omega
/-! ### least ones -/
theorem minI_mem : ∀ {xs : List Int}, xs ≠ [] → minI xs ∈ xs
  | [], h => absurd rfl h
  | [x], _ => List.mem_singleton.mpr rfl
  | x :: y :: r, _ => by
    have := minI_mem (xs := y :: r) (by simp)
    show min x (minI (y :: r)) ∈ _
    rcases Int.le_total x (minI (y :: r)) with z | z
    · rw [Int.min_eq_left z]; exact List.mem_cons_self
    · rw [Int.min_eq_right z]; exact List.mem_cons_of_mem _ this
theorem minI_le : ∀ {xs : List Int} {y : Int}, y ∈ xs → minI xs ≤ y
  | [x], y, h => by rw [List.mem_singleton.mp h]; exact Int.le_refl _
  | x :: z :: r, y, h => by
    show min x (minI (z :: r)) ≤ y
    rcases List.mem_cons.mp h with e | e
    · omega
    · have := minI_le (xs := z :: r) e; omega
theorem minI_snoc {xs : List Int} {x : Int} : minI (xs ++ [x]) = if xs = [] then x else min (minI xs) x := by
  by_cases h : xs = []
  · subst h; rfl
  · rw [if_neg h]
    symm
    refine minI_spec ?_ fun y hy => ?_
    · rcases Int.le_total (minI xs) x with z | z
      · rw [Int.min_eq_left z]; exact List.mem_append_left _ (minI_mem h)
      · rw [Int.min_eq_right z]; exact List.mem_append_right _ (List.mem_singleton.mpr rfl)
    · rcases List.mem_append.mp hy with e | e
      · have := minI_le e; omega
      · rw [List.mem_singleton.mp e]; omega
theorem sort_head {xs : List Int} {x : Int} {r : List Int} (h : sortI xs = x :: r) : x ∈ xs ∧ ∀ y ∈ xs, x ≤ y := by
  have hs := sortI_sorted xs
  rw [h, List.pairwise_cons] at hs
  refine ⟨mem_sort.mp (by rw [h]; exact List.mem_cons_self), fun y hy => ?_⟩
  have : y ∈ x :: r := by rw [← h]; exact mem_sort.mpr hy
  rcases List.mem_cons.mp this with e | e
  · omega
  · exact hs.1 y e
end Cr
/-! Pl4: more of the plain layer: draws, pairs, loops that return, gcd. -/
namespace Cr
open PySem PySem.Spec PyProof.Rows L2

theorem compL_of {α : Type} {vs : List Nat} {b : Bf} {ft : Tf} {fe : Ef} {env : Env} {st : Store} (enc : α → W) (q : α → Bool) (g : α → W) : ∀ (xs : List α), (∀ x ∈ xs, ∃ env1, b (enc x) (wipeE env vs) = some env1 ∧ ft env1 st = .ok (q x) st ∧ (q x = true → fe env1 st = .ok (g x) st)) →
    compL vs b ft fe env (xs.map enc) st = .ok ((xs.filter q).map g) st
  | [], _ => rfl
  | x :: xs, h => by
    obtain ⟨env1, e1, e2, e3⟩ := h x List.mem_cons_self
    have r := compL_of (vs := vs) (b := b) (ft := ft) (fe := fe) (env := env) (st := st) enc q g xs fun w' hw => h w' (List.mem_cons_of_mem _ hw)
    rw [List.map_cons]
    unfold compL
    cases hp : q x with
    | true => simp [e1, e2, hp, e3 hp, r]
    | false => simp [e1, e2, hp, r]
/-- [e for x in xs if t] -/
theorem comp_of {α : Type} {fi : If} {vs : List Nat} {b : Bf} {ft : Tf} {fe : Ef} {env : Env} {st : Store} (xs : List α) (enc : α → W) (q : α → Bool) (g : α → W) (hi : fi env st = .ok (xs.map enc) st) (h : ∀ x ∈ xs, ∃ env1, b (enc x) (wipeE env vs) = some env1 ∧ ft env1 st = .ok (q x) st ∧ (q x = true → fe env1 st = .ok (g x) st)) :
    comp_ fi vs b ft fe env st = .ok (.ol ((xs.filter q).map g)) st := comp_ok hi (compL_of enc q g xs h)
/-- [e for x in xs] -/
theorem comp_all {α : Type} {fi : If} {vs : List Nat} {b : Bf} {fe : Ef} {env : Env} {st : Store} (xs : List α) (enc : α → W) (g : α → W) (hi : fi env st = .ok (xs.map enc) st) (h : ∀ x ∈ xs, ∃ env1, b (enc x) (wipeE env vs) = some env1 ∧ fe env1 st = .ok (g x) st) :
    comp_ fi vs b yes_ fe env st = .ok (.ol (xs.map g)) st := by
  have := comp_of (ft := yes_) (fe := fe) (b := b) (vs := vs) xs enc (fun _ => true) g hi fun x hx => by
    obtain ⟨env1, e1, e2⟩ := h x hx
    exact ⟨env1, e1, rfl, fun _ => e2⟩
  rwa [List.filter_eq_self.mpr (fun _ _ => rfl)] at this
/-- the numbers of a range -/
def rgI (a b : Int) : List Int := (List.range (b - a).toNat).map fun i : Nat => a + (i : Int)
theorem rgW_rgI (a b : Int) : rgW a (b - a).toNat = (rgI a b).map .int := by unfold rgW rgI; rw [List.map_map]; rfl
theorem mem_rgI {a b x : Int} : x ∈ rgI a b ↔ a ≤ x ∧ x < b := by
  unfold rgI
  rw [List.mem_map]
  constructor
  · rintro ⟨i, h, rfl⟩
    rw [List.mem_range] at h
    omega
  · rintro ⟨h1, h2⟩
    exact ⟨(x - a).toNat, by rw [List.mem_range]; omega, by omega⟩
theorem rgI_length (a b : Int) : (rgI a b).length = (b - a).toNat := by unfold rgI; rw [List.length_map, List.length_range]
theorem rng2_I {fa : Af} {env : Env} {st st1 : Store} {a b : Int} (h : fa env st = .ok [.int a, .int b] st1) (hz : rgOk a b = true) : rng2_ fa env st = .ok ((rgI a b).map .int) st1 := by
  rw [rng2_ok h hz, rgW_rgI]
theorem rng1_I {fa : Af} {env : Env} {st st1 : Store} {n : Int} (h : fa env st = .ok [.int n] st1) (hz : rgOk 0 n = true) : rng1_ fa env st = .ok ((rgI 0 n).map .int) st1 := by
  rw [rng1_ok h hz, ← rgW_rgI, Int.sub_zero]
/-! ### ints, pairs, lists of them -/
def tI (xs : List Int) : W := .tup (xs.map .int)
def lI (xs : List Int) : W := .lst (xs.map .int)
def pr (p : Int × Int) : W := .tup [.int p.1, .int p.2]
def kT (ks : List (Int × Int)) : W := .tup (ks.map pr)
theorem pyL_eqv : ∀ xs ys : List Int, PyData.eqvAll (W.pyL (xs.map .int)) (W.pyL (ys.map .int)) = decide (xs = ys)
  | [], [] => by simp [W.pyL, PyData.eqvAll]
  | [], _ :: _ => by simp [W.pyL, PyData.eqvAll]
  | _ :: _, [] => by simp [W.pyL, PyData.eqvAll]
  | x :: xs, y :: ys => by
    simp only [List.map_cons, W.pyL, W.py, PyData.eqvAll, PyData.eqv, pyL_eqv xs ys]
    by_cases h : x = y <;> simp [h]
theorem eq_tI (xs ys : List Int) (st : Store) : eqW (tI xs) (tI ys) st = .ok (.bl (decide (xs = ys))) st := by
  have f : ∀ zs, W.fit 60 (tI zs) = true := fun zs => by simp only [tI, W.fit]; exact ints_fit _ zs
  unfold eqW
  rw [f, f]
  simp only [tI, W.py, PyData.eqv, pyL_eqv, Bool.and_self, if_true]
theorem eq_lI (xs ys : List Int) (st : Store) : eqW (lI xs) (lI ys) st = .ok (.bl (decide (xs = ys))) st := by
  have f : ∀ zs, W.fit 60 (lI zs) = true := fun zs => by simp only [lI, W.fit]; exact ints_fit _ zs
  unfold eqW
  rw [f, f]
  simp only [lI, W.py, PyData.eqv, pyL_eqv, Bool.and_self, if_true]
theorem ne_tI (xs ys : List Int) (st : Store) : neW (tI xs) (tI ys) st = .ok (.bl (!decide (xs = ys))) st := by
  have f : ∀ zs, W.fit 60 (tI zs) = true := fun zs => by simp only [tI, W.fit]; exact ints_fit _ zs
  unfold neW
  rw [f, f]
  simp only [tI, W.py, PyData.eqv, pyL_eqv, Bool.and_self, if_true]
theorem ne_lI (xs ys : List Int) (st : Store) : neW (lI xs) (lI ys) st = .ok (.bl (!decide (xs = ys))) st := by
  have f : ∀ zs, W.fit 60 (lI zs) = true := fun zs => by simp only [lI, W.fit]; exact ints_fit _ zs
  unfold neW
  rw [f, f]
  simp only [lI, W.py, PyData.eqv, pyL_eqv, Bool.and_self, if_true]
theorem eq_int (x y : Int) (st : Store) : eqW (.int x) (.int y) st = .ok (.bl (decide (x = y))) st := by
  unfold eqW
  rw [int_fit, int_fit]
  by_cases h : x = y <;> simp [W.py, PyData.eqv, h]
theorem ne_int (x y : Int) (st : Store) : neW (.int x) (.int y) st = .ok (.bl (!decide (x = y))) st := by
  unfold neW
  rw [int_fit, int_fit]
  by_cases h : x = y <;> simp [W.py, PyData.eqv, h]
theorem ne_bl (x y : Bool) (st : Store) : neW (.bl x) (.bl y) st = .ok (.bl (!decide (x = y))) st := by
  unfold neW
  cases x <;> cases y <;> simp [W.fit, W.py, PyData.eqv]
theorem in_ints (x : Int) (ys : List Int) : inB (.int x) (lI ys) = some (decide (x ∈ ys)) := by
  unfold inB lI
  simp only [int_fit, ints_fit, Bool.and_self, if_true, Option.some.injEq]
  rw [List.any_map]
  induction ys with
  | nil => simp
  | cons y ys ih =>
    rw [List.any_cons, ih]
    by_cases h : x = y
    · subst h; simp [W.py, PyData.eqv]
    · have h' : ¬ y = x := fun z => h z.symm
      simp [W.py, PyData.eqv, h, h']
theorem nin_ints (x : Int) (ys : List Int) (st : Store) : ninW (.int x) (lI ys) st = .ok (.bl (!decide (x ∈ ys))) st := by
  unfold ninW
  rw [in_ints]
theorem len_tI (xs : List Int) (st : Store) : lenW (tI xs) st = .ok (.int xs.length) st := by
  show R.ok (W.int ((xs.map W.int).length : Nat)) st = _
  rw [List.length_map]
theorem len_lI (xs : List Int) (st : Store) : lenW (lI xs) st = .ok (.int xs.length) st := by
  show R.ok (W.int ((xs.map W.int).length : Nat)) st = _
  rw [List.length_map]
theorem mod_ok {a b : Int} (h : b ≠ 0) (st : Store) : modW (.int a) (.int b) st = .ok (.int (a.fmod b)) st := by unfold modW; simp [h]
theorem atI_ok {α : Type} {xs : List α} {i : Nat} {x : α} (h : xs[i]? = some x) : atI xs (i : Int) = some x := by
  have hlt := (List.getElem?_eq_some_iff.mp h).1
  unfold atI ixN
  rw [if_pos (by omega), if_pos (by omega)]
  simpa using h
theorem atI_last {α : Type} (r : List α) (l : α) : atI (r ++ [l]) (-1) = some l := by
  have e1 : ixN (r ++ [l]).length (-1) = some r.length := by
    unfold ixN
    rw [List.length_append, List.length_singleton, if_neg (by omega), if_pos (by omega)]
    congr 1
    omega
  unfold atI
  rw [e1]
  show (r ++ [l])[r.length]? = _
  rw [List.getElem?_append_right (Nat.le_refl _), Nat.sub_self]
  rfl
theorem ix_lst {xs : List W} {i : Int} {w : W} (h : atI xs i = some w) (st : Store) : ixW (.lst xs) (.int i) st = .ok w st := by unfold ixW; simp only [h]
theorem ix_tup {xs : List W} {i : Int} {w : W} (h : atI xs i = some w) (st : Store) : ixW (.tup xs) (.int i) st = .ok w st := by unfold ixW; simp only [h]
theorem add_tup {xs ys : List W} (h : xs.length + ys.length ≤ 1000000) (st : Store) : addW (.tup xs) (.tup ys) st = .ok (.tup (xs ++ ys)) st := by
  have : xs.length + ys.length ≤ LIM := by show xs.length + ys.length ≤ 16777216; omega
  unfold addW
  simp only []
  rw [if_pos this]
theorem add_lst {xs ys : List W} (h : xs.length + ys.length ≤ 1000000) (st : Store) : addW (.lst xs) (.lst ys) st = .ok (.lst (xs ++ ys)) st := by
  have : xs.length + ys.length ≤ LIM := by show xs.length + ys.length ≤ 16777216; omega
  unfold addW
  simp only []
  rw [if_pos this]
theorem ext_ok {i : Nat} {f : Ef} {env : Env} {st st1 : Store} {xs ys : List W} (h : f env st = .ok (.lst ys) st1) (hx : env[i]? = some (some (.ol xs))) (hl : xs.length + ys.length ≤ 1000000) : ext_ i f env st = .ok (.nx (env.set i (some (.ol (xs ++ ys))))) st1 := by
  have : xs.length + ys.length ≤ LIM := by show xs.length + ys.length ≤ 16777216; omega
  unfold ext_
  rw [h]
  simp only [R.ok_bind, hx]
  rw [if_pos this]
theorem app_ok {i : Nat} {f : Ef} {env : Env} {st st1 : Store} {xs : List W} {w : W} (h : f env st = .ok w st1) (hx : env[i]? = some (some (.ol xs))) (hl : xs.length ≤ 1000000) : app_ i f env st = .ok (.nx (env.set i (some (.ol (xs ++ [w]))))) st1 := by
  have : xs.length < LIM := by show xs.length < 16777216; omega
  unfold app_
  rw [h]
  simp only [R.ok_bind, hx]
  rw [if_pos this]
/-! ### draws -/
theorem drw {env : Env} {st : Store} {fm : Ef} {m : Int} {i : Nat} (h : WS st) (h1 : var_ i env st = .ok (.ref 0) st) (hm : fm env st = .ok (.int m) st) (h0 : 0 < m) :
    ∃ v st', call_ g_law_next (cons_ (var_ i) (cons_ fm (nil_))) env st = .ok (.int v) st' ∧ 0 ≤ v ∧ v < m ∧ WS st' := by
  obtain ⟨v, st', e, a, b, c⟩ := next_spec h h0
  exact ⟨v, st', call_ok (cons_ok h1 (cons_ok hm rfl)) e, a, b, c⟩
theorem encs {α : Type} (enc : α → W) (P : α → Prop) : ∀ ys : List W, (∀ y ∈ ys, ∃ x, y = enc x ∧ P x) → ∃ xs : List α, ys = xs.map enc ∧ ∀ x ∈ xs, P x
  | [], _ => ⟨[], rfl, fun _ h => nomatch h⟩
  | y :: ys, h => by
    obtain ⟨x, e, hx⟩ := h y List.mem_cons_self
    obtain ⟨xs, e2, hxs⟩ := encs enc P ys fun z hz => h z (List.mem_cons_of_mem _ hz)
    refine ⟨x :: xs, by rw [e, e2]; rfl, fun z hz => ?_⟩
    rcases List.mem_cons.mp hz with rfl | hz
    · exact hx
    · exact hxs z hz
theorem same_call {fa fb : Ef} {env : Env} {st : Store} {w : W} (c1 : fa env st = .ok w st) (c2 : fb env st = .ok w st) (hf : Fine w) : tst_ (call_ g_law_same (cons_ fa (cons_ fb (nil_)))) env st = .ok true st :=
  tst_ok (call_ok (ws := [w, w]) (st1 := st) (cons_ok c1 (cons_ok (xs := []) (st2 := st) c2 rfl)) (same_spec hf st))
/-! ### loops -/
/-- a loop that may return -/
theorem forL_some {b : Bf} {f : Sf} {st : Store} (I : Env → Prop) (o : W → Option W) : ∀ (ws : List W) (env : Env), I env → (∀ w ∈ ws, ∀ env, I env → ∃ env1, b w env = some env1 ∧ match o w with
    | some v => f env1 st = .ok (.rt v) st
    | none => ∃ env2, f env1 st = .ok (.nx env2) st ∧ I env2) → match ws.findSome? o with
    | some v => forL b f ws env st = .ok (.rt v) st
    | none => ∃ env', forL b f ws env st = .ok (.nx env') st ∧ I env'
  | [], env, h, _ => ⟨env, rfl, h⟩
  | w :: ws, env, h, hs => by
    obtain ⟨env1, e1, e2⟩ := hs w List.mem_cons_self env h
    rw [List.findSome?_cons]
    cases ho : o w with
    | some v =>
      rw [ho] at e2
      exact forL_cons_rt e1 e2
    | none =>
      rw [ho] at e2
      obtain ⟨env2, e3, h2⟩ := e2
      have ih := forL_some (b := b) (f := f) (st := st) I o ws env2 h2 fun w' hw => hs w' (List.mem_cons_of_mem _ hw)
      show match ws.findSome? o with | some v => _ | none => _
      cases hf : ws.findSome? o with
      | some v =>
        rw [hf] at ih
        exact forL_cons_ok e1 e3 ih
      | none =>
        rw [hf] at ih
        obtain ⟨env', e4, h4⟩ := ih
        exact ⟨env', forL_cons_ok e1 e3 e4, h4⟩
/-- a loop over what is encoded, with what has been walked -/
theorem forL_enc {α : Type} {b : Bf} {f : Sf} {st : Store} (enc : α → W) (I : List α → Env → Prop) (xs : List α) : ∀ (pre rest : List α) (env : Env), xs = pre ++ rest → I pre env →
    (∀ pre x rest env, xs = pre ++ x :: rest → I pre env → ∃ env1 env2, b (enc x) env = some env1 ∧ f env1 st = .ok (.nx env2) st ∧ I (pre ++ [x]) env2) → ∃ env', forL b f (rest.map enc) env st = .ok (.nx env') st ∧ I xs env'
  | pre, [], env, hx, h, _ => ⟨env, rfl, by rw [hx, List.append_nil]; exact h⟩
  | pre, x :: rest, env, hx, h, hs => by
    obtain ⟨env1, env2, e1, e2, h2⟩ := hs pre x rest env hx h
    obtain ⟨env', e3, h3⟩ := forL_enc enc I xs (pre ++ [x]) rest env2 (by rw [hx, List.append_assoc]; rfl) h2 hs
    exact ⟨env', forL_cons_ok e1 e2 e3, h3⟩
theorem forL_enc0 {α : Type} {b : Bf} {f : Sf} {st : Store} (enc : α → W) (I : List α → Env → Prop) (xs : List α) (env : Env) (h : I [] env)
    (hs : ∀ pre x rest env, xs = pre ++ x :: rest → I pre env → ∃ env1 env2, b (enc x) env = some env1 ∧ f env1 st = .ok (.nx env2) st ∧ I (pre ++ [x]) env2) : ∃ env', forL b f (xs.map enc) env st = .ok (.nx env') st ∧ I xs env' :=
  forL_enc enc I xs [] xs env rfl h hs
end Cr
namespace Cr.L49
open PySem PySem.Spec PyProof.Rows L2 Cr
/-! what each def computes -/
/-- _law_rules: slots 0 w, 1 most, 2 left, 3 rules, 4 k, 5 n, 6 one -/
noncomputable def s_law_rules_1 : Sf := asg_ 2 (lrg2_ (cst_ (.int 1)) (bin addW (var_ 1) (cst_ (.int 1))))
noncomputable def s_law_rules_2 : Sf := asg_ 3 (tup_ (nil_))
noncomputable def s_law_rules_5 : Sf := asg_ 5 (bin ixW (var_ 2) (call_ g_law_next (cons_ (var_ 0) (cons_ (un lenW (var_ 2)) (nil_)))))
noncomputable def s_law_rules_6 : Sf := asg_ 2 (frzL_ (comp_ (looks_ (var_ 2)) [6] (bN 6) (tst_ (bin neW (var_ 6) (var_ 5))) (var_ 6)))
noncomputable def s_law_rules_7 : Sf := asg_ 3 (bin addW (var_ 3) (tup_ (cons_ (tup_ (cons_ (var_ 5) (cons_ (call_ g_law_next (cons_ (var_ 0) (cons_ (cst_ (.int 2)) (nil_)))) (nil_)))) (nil_))))
noncomputable def s_law_rules_4 : Sf := if_ (tst_ (bin neW (var_ 2) (lst_ (nil_)))) (seq_ (s_law_rules_5) (seq_ (s_law_rules_6) (s_law_rules_7))) (skip_)
noncomputable def s_law_rules_3 : Sf := for_ (rng1_ (cons_ (call_ g_law_next (cons_ (var_ 0) (cons_ (cst_ (.int 4)) (nil_)))) (nil_))) (bN 4) (s_law_rules_4)
noncomputable def s_law_rules_8 : Sf := ret_ (var_ 3)
noncomputable def fb_law_rules : Sf := seq_ (s_law_rules_1) (seq_ (s_law_rules_2) (seq_ (s_law_rules_3) (s_law_rules_8)))
noncomputable def g_law_rules : Df := run_ 7 fb_law_rules
/-- _law_leap: slots 0 rules, 1 year, 2 found, 3 n, 4 sign -/
noncomputable def s_law_leap_1 : Sf := asg_ 2 (cst_ (.int 0))
noncomputable def s_law_leap_4 : Sf := asg_ 2 (var_ 4)
noncomputable def s_law_leap_3 : Sf := if_ (tst_ (bin eqW (bin modW (var_ 1) (var_ 3)) (cst_ (.int 0)))) (s_law_leap_4) (skip_)
noncomputable def s_law_leap_2 : Sf := for_ (items_ (var_ 0)) (bT 2 (bCons (bN 3) (bCons (bN 4) (bNil)))) (s_law_leap_3)
noncomputable def s_law_leap_5 : Sf := ret_ (var_ 2)
noncomputable def fb_law_leap : Sf := seq_ (s_law_leap_1) (seq_ (s_law_leap_2) (s_law_leap_5))
noncomputable def g_law_leap : Df := run_ 5 fb_law_leap
/-- rows_of_rules: slots 0 many, 1 most, 2 rows, 3 _, 4 longer, 5 row, 6 used, 7 n -/
noncomputable def s_rows_of_rules_1 : Sf := asg_ 2 (lst_ (cons_ (tup_ (nil_)) (nil_)))
noncomputable def s_rows_of_rules_3 : Sf := own_ 4 (olst_ (nil_))
noncomputable def s_rows_of_rules_5 : Sf := asg_ 6 (frzL_ (comp_ (looks_ (var_ 5)) [7, 3] (bT 2 (bCons (bN 7) (bCons (bN 3) (bNil)))) (yes_) (var_ 7)))
noncomputable def s_rows_of_rules_8 : Sf := ext_ 4 (lst_ (cons_ (bin addW (var_ 5) (tup_ (cons_ (tup_ (cons_ (var_ 7) (cons_ (cst_ (.int 0)) (nil_)))) (nil_)))) (cons_ (bin addW (var_ 5) (tup_ (cons_ (tup_ (cons_ (var_ 7) (cons_ (cst_ (.int 1)) (nil_)))) (nil_)))) (nil_))))
noncomputable def s_rows_of_rules_7 : Sf := if_ (tst_ (bin ninW (var_ 7) (var_ 6))) (s_rows_of_rules_8) (skip_)
noncomputable def s_rows_of_rules_6 : Sf := for_ (rng2_ (cons_ (cst_ (.int 1)) (cons_ (bin addW (var_ 1) (cst_ (.int 1))) (nil_)))) (bN 7) (s_rows_of_rules_7)
noncomputable def s_rows_of_rules_4 : Sf := for_ (items_ (var_ 2)) (bN 5) (seq_ (s_rows_of_rules_5) (s_rows_of_rules_6))
noncomputable def s_rows_of_rules_9 : Sf := asg_ 2 (var_ 4)
noncomputable def s_rows_of_rules_2 : Sf := for_ (rng1_ (cons_ (var_ 0) (nil_))) (bN 3) (seq_ (s_rows_of_rules_3) (seq_ (s_rows_of_rules_4) (freeze_ 4 (s_rows_of_rules_9))))
noncomputable def s_rows_of_rules_10 : Sf := ret_ (var_ 2)
noncomputable def fb_rows_of_rules : Sf := seq_ (s_rows_of_rules_1) (seq_ (s_rows_of_rules_2) (s_rows_of_rules_10))
noncomputable def g_rows_of_rules : Df := run_ 8 fb_rows_of_rules
/-- is_leap: slots 0 calendar, 1 year, 2 signs, 3 n, 4 sign -/
noncomputable def s_is_leap_1 : Sf := asg_ 2 (frzL_ (comp_ (looks_ (bin ixW (var_ 0) (cst_ (.int 3)))) [3, 4] (bT 2 (bCons (bN 3) (bCons (bN 4) (bNil)))) (tst_ (bin eqW (bin modW (var_ 1) (var_ 3)) (cst_ (.int 0)))) (var_ 4)))
noncomputable def s_is_leap_2 : Sf := ret_ (andV_ (bin neW (var_ 2) (lst_ (nil_))) (bin eqW (bin ixW (var_ 2) (neg_ (cst_ (.int 1)))) (cst_ (.int 1))))
noncomputable def fb_is_leap : Sf := seq_ (s_is_leap_1) (s_is_leap_2)
noncomputable def g_is_leap : Df := run_ 5 fb_is_leap
/-- told_by: slots 0 rules, 1 year -/
noncomputable def s_told_by_1 : Sf := ret_ (call_ g_is_leap (cons_ (tup_ (cons_ (cst_ (.int 0)) (cons_ (tup_ (cons_ (cst_ (.int 1)) (nil_))) (cons_ (cst_ (.int 0)) (cons_ (var_ 0) (nil_)))))) (cons_ (var_ 1) (nil_))))
noncomputable def fb_told_by : Sf := s_told_by_1
noncomputable def g_told_by : Df := run_ 2 fb_told_by
/-- fits_signs: slots 0 rules, 1 signs, 2 k -/
noncomputable def s_fits_signs_1 : Sf := ret_ (un allW (frzL_ (comp_ (rng1_ (cons_ (un lenW (var_ 1)) (nil_))) [2] (bN 2) (yes_) (bin eqW (un intW (call_ g_told_by (cons_ (var_ 0) (cons_ (bin addW (var_ 2) (cst_ (.int 1))) (nil_))))) (bin ixW (var_ 1) (var_ 2))))))
noncomputable def fb_fits_signs : Sf := s_fits_signs_1
noncomputable def g_fits_signs : Df := run_ 3 fb_fits_signs
/-- leap_rules_for: slots 0 signs, 1 most, 2 many, 3 rules -/
noncomputable def s_leap_rules_for_4 : Sf := ret_ (tup_ (cons_ (cst_ (.str "yes")) (cons_ (var_ 3) (nil_))))
noncomputable def s_leap_rules_for_3 : Sf := if_ (tst_ (call_ g_fits_signs (cons_ (var_ 3) (cons_ (var_ 0) (nil_))))) (s_leap_rules_for_4) (skip_)
noncomputable def s_leap_rules_for_2 : Sf := for_ (items_ (call_ g_rows_of_rules (cons_ (var_ 2) (cons_ (var_ 1) (nil_))))) (bN 3) (s_leap_rules_for_3)
noncomputable def s_leap_rules_for_1 : Sf := for_ (rng1_ (cons_ (cst_ (.int 4)) (nil_))) (bN 2) (s_leap_rules_for_2)
noncomputable def s_leap_rules_for_5 : Sf := ret_ (tup_ (cons_ (cst_ (.str "no")) (nil_)))
noncomputable def fb_leap_rules_for : Sf := seq_ (s_leap_rules_for_1) (s_leap_rules_for_5)
noncomputable def g_leap_rules_for : Df := run_ 4 fb_leap_rules_for
/-- _law_rows: slots 0 many, 1 most, 2 rows, 3 turn, 4 longer, 5 row, 6 used, 7 n, 8 sign -/
noncomputable def s_law_rows_1 : Sf := asg_ 2 (lst_ (cons_ (tup_ (nil_)) (nil_)))
noncomputable def s_law_rows_3 : Sf := asg_ 4 (lst_ (nil_))
noncomputable def s_law_rows_5 : Sf := asg_ 6 (frzL_ (comp_ (looks_ (var_ 5)) [7, 8] (bT 2 (bCons (bN 7) (bCons (bN 8) (bNil)))) (yes_) (var_ 7)))
noncomputable def s_law_rows_8 : Sf := asg_ 4 (bin addW (var_ 4) (lst_ (cons_ (bin addW (var_ 5) (tup_ (cons_ (tup_ (cons_ (var_ 7) (cons_ (cst_ (.int 0)) (nil_)))) (nil_)))) (cons_ (bin addW (var_ 5) (tup_ (cons_ (tup_ (cons_ (var_ 7) (cons_ (cst_ (.int 1)) (nil_)))) (nil_)))) (nil_)))))
noncomputable def s_law_rows_7 : Sf := if_ (tst_ (bin ninW (var_ 7) (var_ 6))) (s_law_rows_8) (skip_)
noncomputable def s_law_rows_6 : Sf := for_ (rng2_ (cons_ (cst_ (.int 1)) (cons_ (bin addW (var_ 1) (cst_ (.int 1))) (nil_)))) (bN 7) (s_law_rows_7)
noncomputable def s_law_rows_4 : Sf := for_ (items_ (un listW (var_ 2))) (bN 5) (seq_ (s_law_rows_5) (s_law_rows_6))
noncomputable def s_law_rows_9 : Sf := asg_ 2 (var_ 4)
noncomputable def s_law_rows_2 : Sf := for_ (rng1_ (cons_ (var_ 0) (nil_))) (bN 3) (seq_ (s_law_rows_3) (seq_ (s_law_rows_4) (s_law_rows_9)))
noncomputable def s_law_rows_10 : Sf := ret_ (var_ 2)
noncomputable def fb_law_rows : Sf := seq_ (s_law_rows_1) (seq_ (s_law_rows_2) (s_law_rows_10))
noncomputable def g_law_rows : Df := run_ 9 fb_law_rows
/-- _law_found: slots 0 signs, 1 most, 2 many, 3 rules, 4 k -/
noncomputable def s_law_found_4 : Sf := ret_ (tup_ (cons_ (cst_ (.str "yes")) (cons_ (var_ 3) (nil_))))
noncomputable def s_law_found_3 : Sf := if_ (tst_ (bin eqW (frzL_ (comp_ (rng1_ (cons_ (un lenW (var_ 0)) (nil_))) [4] (bN 4) (yes_) (call_ g_law_leap (cons_ (var_ 3) (cons_ (bin addW (var_ 4) (cst_ (.int 1))) (nil_)))))) (un listW (var_ 0)))) (s_law_found_4) (skip_)
noncomputable def s_law_found_2 : Sf := for_ (items_ (call_ g_law_rows (cons_ (var_ 2) (cons_ (var_ 1) (nil_))))) (bN 3) (s_law_found_3)
noncomputable def s_law_found_1 : Sf := for_ (rng1_ (cons_ (cst_ (.int 4)) (nil_))) (bN 2) (s_law_found_2)
noncomputable def s_law_found_5 : Sf := ret_ (tup_ (cons_ (cst_ (.str "no")) (nil_)))
noncomputable def fb_law_found : Sf := seq_ (s_law_found_1) (s_law_found_5)
noncomputable def g_law_found : Df := run_ 5 fb_law_found
/-- years_told: slots 0 rules, 1 begin, 2 end, 3 year -/
noncomputable def s_years_told_1 : Sf := ret_ (un tupleW (frzL_ (comp_ (rng2_ (cons_ (var_ 1) (cons_ (var_ 2) (nil_)))) [3] (bN 3) (tst_ (call_ g_told_by (cons_ (var_ 0) (cons_ (var_ 3) (nil_))))) (var_ 3))))
noncomputable def fb_years_told : Sf := s_years_told_1
noncomputable def g_years_told : Df := run_ 4 fb_years_told
/-- common: slots 0 a, 1 b -/
noncomputable def s_common_1 : Sf := par_ [0, 1] (cons_ (un absW (var_ 0)) (cons_ (un absW (var_ 1)) (nil_)))
noncomputable def s_common_3 : Sf := par_ [0, 1] (cons_ (var_ 1) (cons_ (bin modW (var_ 0) (var_ 1)) (nil_)))
noncomputable def s_common_2 : Sf := whl_ (tst_ (bin gtW (var_ 1) (cst_ (.int 0)))) (s_common_3)
noncomputable def s_common_4 : Sf := ret_ (var_ 0)
noncomputable def fb_common : Sf := seq_ (s_common_1) (seq_ (s_common_2) (s_common_4))
noncomputable def g_common : Df := run_ 2 fb_common
/-- together: slots 0 a, 1 b -/
noncomputable def s_together_1 : Sf := ret_ (bin mulW (bin divW (var_ 0) (call_ g_common (cons_ (var_ 0) (cons_ (var_ 1) (nil_))))) (var_ 1))
noncomputable def fb_together : Sf := s_together_1
noncomputable def g_together : Df := run_ 2 fb_together
/-- same_rules: slots 0 one, 1 other, 2 whole, 3 n, 4 _ -/
noncomputable def s_same_rules_1 : Sf := asg_ 2 (cst_ (.int 1))
noncomputable def s_same_rules_3 : Sf := asg_ 2 (call_ g_together (cons_ (var_ 2) (cons_ (var_ 3) (nil_))))
noncomputable def s_same_rules_2 : Sf := for_ (items_ (bin addW (var_ 0) (var_ 1))) (bT 2 (bCons (bN 3) (bCons (bN 4) (bNil)))) (s_same_rules_3)
noncomputable def s_same_rules_4 : Sf := ret_ (bin eqW (call_ g_years_told (cons_ (var_ 0) (cons_ (cst_ (.int 0)) (cons_ (var_ 2) (nil_))))) (call_ g_years_told (cons_ (var_ 1) (cons_ (cst_ (.int 0)) (cons_ (var_ 2) (nil_))))))
noncomputable def fb_same_rules : Sf := seq_ (s_same_rules_1) (seq_ (s_same_rules_2) (s_same_rules_4))
noncomputable def g_same_rules : Df := run_ 5 fb_same_rules
/-- law: slots 0 script, 1 w, 2 turn, 3 most, 4 many, 5 rules, 6 signs, 7 begin, 8 end, 9 other, 10 alike, 11 k, 12 year -/
noncomputable def s_law_1 : Sf := asg_ 1 (sd2_ "draws" "at" (call_ g_law_draws (cons_ (var_ 0) (cons_ (cst_ (.int 120)) (nil_)))) (cst_ (.int 0)))
noncomputable def s_law_3 : Sf := asg_ 3 (bin addW (cst_ (.int 1)) (call_ g_law_next (cons_ (var_ 1) (cons_ (cst_ (.int 5)) (nil_)))))
noncomputable def s_law_4 : Sf := asg_ 4 (bin addW (cst_ (.int 1)) (call_ g_law_next (cons_ (var_ 1) (cons_ (cst_ (.int 8)) (nil_)))))
noncomputable def s_law_5 : Sf := asg_ 5 (call_ g_law_rules (cons_ (var_ 1) (cons_ (bin addW (cst_ (.int 1)) (call_ g_law_next (cons_ (var_ 1) (cons_ (cst_ (.int 6)) (nil_))))) (nil_))))
noncomputable def s_law_6 : Sf := asg_ 6 (un tupleW (frzL_ (comp_ (rng1_ (cons_ (var_ 4) (nil_))) [11] (bN 11) (yes_) (call_ g_law_leap (cons_ (var_ 5) (cons_ (bin addW (var_ 11) (cst_ (.int 1))) (nil_)))))))
noncomputable def s_law_8 : Sf := asg_ 6 (un tupleW (frzL_ (comp_ (rng1_ (cons_ (var_ 4) (nil_))) [11] (bN 11) (yes_) (call_ g_law_next (cons_ (var_ 1) (cons_ (cst_ (.int 2)) (nil_)))))))
noncomputable def s_law_7 : Sf := if_ (tst_ (bin eqW (call_ g_law_next (cons_ (var_ 1) (cons_ (cst_ (.int 3)) (nil_)))) (cst_ (.int 0)))) (s_law_8) (skip_)
noncomputable def s_law_10 : Sf := ret_ (cst_ (.bl false))
noncomputable def s_law_9 : Sf := if_ (not_ (tst_ (call_ g_law_same (cons_ (call_ g_leap_rules_for (cons_ (var_ 6) (cons_ (var_ 3) (nil_)))) (cons_ (call_ g_law_found (cons_ (var_ 6) (cons_ (var_ 3) (nil_)))) (nil_)))))) (s_law_10) (skip_)
noncomputable def s_law_11 : Sf := asg_ 7 (bin subW (call_ g_law_next (cons_ (var_ 1) (cons_ (cst_ (.int 60)) (nil_)))) (cst_ (.int 40)))
noncomputable def s_law_12 : Sf := asg_ 8 (bin subW (bin addW (var_ 7) (call_ g_law_next (cons_ (var_ 1) (cons_ (cst_ (.int 40)) (nil_))))) (cst_ (.int 3)))
noncomputable def s_law_14 : Sf := ret_ (cst_ (.bl false))
noncomputable def s_law_13 : Sf := if_ (not_ (tst_ (call_ g_law_same (cons_ (call_ g_years_told (cons_ (var_ 5) (cons_ (var_ 7) (cons_ (var_ 8) (nil_))))) (cons_ (un tupleW (frzL_ (comp_ (rng2_ (cons_ (var_ 7) (cons_ (var_ 8) (nil_)))) [12] (bN 12) (tst_ (bin eqW (call_ g_law_leap (cons_ (var_ 5) (cons_ (var_ 12) (nil_)))) (cst_ (.int 1)))) (var_ 12)))) (nil_)))))) (s_law_14) (skip_)
noncomputable def s_law_15 : Sf := asg_ 9 (call_ g_law_rules (cons_ (var_ 1) (cons_ (bin addW (cst_ (.int 1)) (call_ g_law_next (cons_ (var_ 1) (cons_ (cst_ (.int 6)) (nil_))))) (nil_))))
noncomputable def s_law_16 : Sf := asg_ 9 (bin ixW (lst_ (cons_ (var_ 9) (cons_ (var_ 5) (cons_ (bin addW (var_ 5) (tup_ (cons_ (tup_ (cons_ (cst_ (.int 7)) (cons_ (call_ g_law_next (cons_ (var_ 1) (cons_ (cst_ (.int 2)) (nil_)))) (nil_)))) (nil_)))) (cons_ (un revW (var_ 5)) (cons_ (bin addW (tup_ (cons_ (tup_ (cons_ (cst_ (.int 7)) (cons_ (cst_ (.int 0)) (nil_)))) (nil_))) (var_ 5)) (cons_ (sl_ (var_ 5) (part (cst_ (.int 1))) (noPart)) (nil_)))))))) (call_ g_law_next (cons_ (var_ 1) (cons_ (cst_ (.int 6)) (nil_)))))
noncomputable def s_law_17 : Sf := asg_ 10 (bin eqW (frzL_ (comp_ (rng1_ (cons_ (cst_ (.int 420)) (nil_))) [12] (bN 12) (tst_ (bin neW (call_ g_law_leap (cons_ (var_ 5) (cons_ (var_ 12) (nil_)))) (call_ g_law_leap (cons_ (var_ 9) (cons_ (var_ 12) (nil_)))))) (var_ 12))) (lst_ (nil_)))
noncomputable def s_law_19 : Sf := ret_ (cst_ (.bl false))
noncomputable def s_law_18 : Sf := if_ (or_ (tst_ (bin neW (call_ g_same_rules (cons_ (var_ 5) (cons_ (var_ 9) (nil_)))) (var_ 10))) (tst_ (bin neW (call_ g_same_rules (cons_ (var_ 9) (cons_ (var_ 5) (nil_)))) (var_ 10)))) (s_law_19) (skip_)
noncomputable def s_law_2 : Sf := for_ (rng1_ (cons_ (cst_ (.int 2)) (nil_))) (bN 2) (seq_ (s_law_3) (seq_ (s_law_4) (seq_ (s_law_5) (seq_ (s_law_6) (seq_ (s_law_7) (seq_ (s_law_9) (seq_ (s_law_11) (seq_ (s_law_12) (seq_ (s_law_13) (seq_ (s_law_15) (seq_ (s_law_16) (seq_ (s_law_17) (s_law_18)))))))))))))
noncomputable def s_law_20 : Sf := ret_ (cst_ (.bl true))
noncomputable def fb_law : Sf := seq_ (s_law_1) (seq_ (s_law_2) (s_law_20))
noncomputable def g_law : Df := run_ 13 fb_law
end Cr.L49
/-! P49: the plain law. -/
namespace Cr.L49
open PySem PySem.Spec PyProof.Rows L2

/-- the sign of the last rule that the year meets; 0 if none -/
def lp (rs : List (Int × Int)) (y : Int) : Int := rs.foldl (fun f p => if y.fmod p.1 = 0 then p.2 else f) 0
structure ROk (p : Int × Int) : Prop where
  n1 : 1 ≤ p.1
  n2 : p.1 ≤ 7
  s : p.2 = 0 ∨ p.2 = 1
theorem lp_snoc (rs : List (Int × Int)) (p : Int × Int) (y : Int) : lp (rs ++ [p]) y = if y.fmod p.1 = 0 then p.2 else lp rs y := by unfold lp; rw [List.foldl_append]; rfl
theorem lp_01 {y : Int} : ∀ (rs : List (Int × Int)) (i : Int), (i = 0 ∨ i = 1) → (∀ p ∈ rs, ROk p) → rs.foldl (fun f p => if y.fmod p.1 = 0 then p.2 else f) i = 0 ∨ rs.foldl (fun f p => if y.fmod p.1 = 0 then p.2 else f) i = 1
  | [], i, h, _ => h
  | p :: rs, i, h, hr => by
    rw [List.foldl_cons]
    refine lp_01 rs _ ?_ fun q hq => hr q (List.mem_cons_of_mem _ hq)
    split
    · exact (hr p List.mem_cons_self).s
    · exact h
theorem lp_bit {rs : List (Int × Int)} {y : Int} (h : ∀ p ∈ rs, ROk p) : lp rs y = 0 ∨ lp rs y = 1 := lp_01 rs 0 (.inl rfl) h
section
variable {rs : List (Int × Int)} {y : Int} {st : Store}
theorem mod_test {env : Env} {i j : Nat} {a n : Int} (h1 : var_ i env st = .ok (.int a) st) (h2 : var_ j env st = .ok (.int n) st) (hn : n ≠ 0) : tst_ (bin eqW (bin modW (var_ i) (var_ j)) (cst_ (.int 0))) env st = .ok (decide (a.fmod n = 0)) st :=
  tst_ok (bin_ok (bin_ok h1 h2 (mod_ok hn st)) rfl (eq_int _ _ _))
theorem leap_ok (h : ∀ p ∈ rs, ROk p) : g_law_leap [kT rs, .int y] st = .ok (.int (lp rs y)) st := by
  obtain ⟨env', e1, c, d, rfl⟩ := forL_enc0 (b := bT 2 (bCons (bN 3) (bCons (bN 4) (bNil)))) (f := s_law_leap_3) (st := st) pr (fun pre env => ∃ c d, env = [some (.w (kT rs)), some (.w (.int y)), some (.w (.int (lp pre y))), c, d]) rs [some (.w (kT rs)), some (.w (.int y)), some (.w (.int 0)), none, none] ⟨none, none, rfl⟩ (fun pre p rest env hx ⟨c, d, he⟩ => by
    subst he
    have hp := h p (by rw [hx]; simp)
    have hn : p.1 ≠ 0 := by have := hp.n1; omega
    have t := mod_test (st := st) (env := [some (.w (kT rs)), some (.w (.int y)), some (.w (.int (lp pre y))), some (.w (.int p.1)), some (.w (.int p.2))]) (i := 1) (j := 3) (a := y) (n := p.1) rfl rfl hn
    refine ⟨_, [some (.w (kT rs)), some (.w (.int y)), some (.w (.int (lp (pre ++ [p]) y))), some (.w (.int p.1)), some (.w (.int p.2))], rfl, ?_, _, _, rfl⟩
    rw [lp_snoc]
    by_cases hm : y.fmod p.1 = 0
    · rw [if_pos hm]
      rw [decide_eq_true hm] at t
      exact if_t t rfl
    · rw [if_neg hm]
      rw [decide_eq_false hm] at t
      exact if_f t rfl)
  exact run_rt (seq_ok rfl (seq_ok (for_ok (ws := rs.map pr) (st1 := st) rfl e1) rfl))
theorem fold_last : ∀ (L : List Int) (i : Int), L.foldl (fun _ s => s) i = (L.getLast?).getD i
  | [], _ => rfl
  | x :: L, i => by
    rw [List.foldl_cons, fold_last L x]
    cases L with
    | nil => rfl
    | cons z L => simp [List.getLast?_cons_cons, List.getLast?_cons]
theorem lp_filter : ∀ (rs : List (Int × Int)) (i : Int), rs.foldl (fun f p => if y.fmod p.1 = 0 then p.2 else f) i = ((rs.filter fun p => decide (y.fmod p.1 = 0)).map (·.2)).foldl (fun _ s => s) i
  | [], _ => rfl
  | p :: rs, i => by
    rw [List.foldl_cons, lp_filter rs]
    by_cases h : y.fmod p.1 = 0
    · rw [if_pos h, List.filter_cons_of_pos (by simpa using h)]; rfl
    · rw [if_neg h, List.filter_cons_of_neg (by simpa using h)]
theorem told_ok (h : ∀ p ∈ rs, ROk p) : g_told_by [kT rs, .int y] st = .ok (.bl (decide (lp rs y = 1))) st := by
  refine run_rt (ret_ok (call_ok (ws := [.tup [.int 0, .tup [.int 1], .int 0, kT rs], .int y]) (st1 := st) rfl ?_))
  let cal : W := .tup [.int 0, .tup [.int 1], .int 0, kT rs]
  have e1 : s_is_leap_1 [some (.w cal), some (.w (.int y)), none, none, none] st = .ok (.nx [some (.w cal), some (.w (.int y)), some (.w (lI ((rs.filter fun p => decide (y.fmod p.1 = 0)).map (·.2)))), none, none]) st := by
    refine asg_ok (w := lI ((rs.filter fun p => decide (y.fmod p.1 = 0)).map (·.2))) (frzL_ok ?_)
    have := comp_of (fi := looks_ (bin ixW (var_ 0) (cst_ (.int 3)))) (vs := [3, 4]) (b := bT 2 (bCons (bN 3) (bCons (bN 4) (bNil)))) (ft := tst_ (bin eqW (bin modW (var_ 1) (var_ 3)) (cst_ (.int 0)))) (fe := var_ 4) (env := [some (.w cal), some (.w (.int y)), none, none, none]) (st := st) rs pr (fun p => decide (y.fmod p.1 = 0)) (fun p => .int p.2) rfl fun p hp =>
      ⟨_, rfl, mod_test rfl rfl (by have := (h p hp).n1; omega), fun _ => rfl⟩
    rw [this, List.map_map]
    rfl
  refine run_rt (seq_ok e1 (ret_ok ?_))
  have e2 : lp rs y = (((rs.filter fun p => decide (y.fmod p.1 = 0)).map (·.2)).getLast?).getD 0 := by
    unfold lp
    rw [lp_filter, fold_last]
  generalize (rs.filter fun p => decide (y.fmod p.1 = 0)).map (·.2) = L at e2
  have n1 : bin neW (var_ 2) (lst_ (nil_)) [some (.w cal), some (.w (.int y)), some (.w (lI L)), none, none] st = .ok (.bl (!decide (L = []))) st := bin_ok (x := lI L) (y := lI []) (st1 := st) (st2 := st) rfl rfl (ne_lI _ _ _)
  unfold andV_
  rw [n1]
  rcases List.eq_nil_or_concat L with rfl | ⟨r, l, rfl⟩
  · rw [e2]; rfl
  · rw [List.concat_eq_append] at e2 ⊢
    have e3 : decide (r ++ [l] = []) = false := by simp
    rw [e3]
    show bin eqW (bin ixW (var_ 2) (neg_ (cst_ (.int 1)))) (cst_ (.int 1)) [some (.w cal), some (.w (.int y)), some (.w (lI (r ++ [l]))), none, none] st = _
    rw [e2]
    have e4 : ((r ++ [l]).getLast?).getD 0 = l := by simp
    rw [e4]
    refine bin_ok (x := .int l) (y := .int 1) (st1 := st) (st2 := st) (bin_ok (x := lI (r ++ [l])) (y := .int (-1)) (st1 := st) (st2 := st) rfl rfl (ix_lst ?_ st)) rfl (eq_int _ _ _)
    rw [List.map_append]
    exact atI_last _ _
end

/-! ### the rows -/
def ext1 (row : List (Int × Int)) (n : Int) : List (List (Int × Int)) := if n ∈ row.map (·.1) then [] else [row ++ [(n, 0)], row ++ [(n, 1)]]
def rowNext (most : Int) (rows : List (List (Int × Int))) : List (List (Int × Int)) := rows.flatMap fun row => (rgI 1 (most + 1)).flatMap (ext1 row)
def rowsN (most : Int) : Nat → List (List (Int × Int))
  | 0 => [[]]
  | k + 1 => rowNext most (rowsN most k)
def lR (rows : List (List (Int × Int))) : W := .lst (rows.map kT)
theorem ext1_len (row : List (Int × Int)) (n : Int) : (ext1 row n).length ≤ 2 := by unfold ext1; split <;> simp
theorem flat_len {α β : Type} (f : α → List β) (k : Nat) : ∀ xs : List α, (∀ x ∈ xs, (f x).length ≤ k) → (xs.flatMap f).length ≤ k * xs.length
  | [], _ => by simp
  | x :: xs, h => by
    have h1 := h x List.mem_cons_self
    have h2 := flat_len f k xs fun z hz => h z (List.mem_cons_of_mem _ hz)
    rw [List.flatMap_cons, List.length_append, List.length_cons, Nat.mul_add]
    omega
theorem rowNext_len {most : Int} (h0 : 0 ≤ most) (h5 : most ≤ 5) (rows : List (List (Int × Int))) : (rowNext most rows).length ≤ 10 * rows.length := by
  refine flat_len _ 10 rows fun row _ => ?_
  have := flat_len (ext1 row) 2 (rgI 1 (most + 1)) fun n _ => ext1_len row n
  rw [rgI_length] at this
  omega
theorem rowsN_len {most : Int} (h0 : 0 ≤ most) (h5 : most ≤ 5) : ∀ k, (rowsN most k).length ≤ 10 ^ k
  | 0 => by simp [rowsN]
  | k + 1 => by
    have h1 := rowsN_len h0 h5 k
    have h2 := rowNext_len h0 h5 (rowsN most k)
    rw [Nat.pow_succ]
    show (rowNext most (rowsN most k)).length ≤ _
    omega
theorem rowsN_ok {most : Int} (h5 : most ≤ 5) : ∀ (k : Nat) (row : List (Int × Int)), row ∈ rowsN most k → row.length = k ∧ ∀ p ∈ row, ROk p
  | 0, row, h => by
    rw [List.mem_singleton.mp h]
    exact ⟨rfl, fun _ h => nomatch h⟩
  | k + 1, row, h => by
    obtain ⟨r0, h1, h2⟩ := List.mem_flatMap.mp (show row ∈ rowNext most (rowsN most k) from h)
    obtain ⟨n, h3, h4⟩ := List.mem_flatMap.mp h2
    obtain ⟨i1, i2⟩ := rowsN_ok h5 k r0 h1
    have hn := mem_rgI.mp h3
    unfold ext1 at h4
    split at h4
    · cases h4
    · rcases List.mem_cons.mp h4 with rfl | h4
      · refine ⟨by simp [i1], fun p hp => ?_⟩
        rcases List.mem_append.mp hp with hp | hp
        · exact i2 p hp
        · rw [List.mem_singleton.mp hp]; exact ⟨by show 1 ≤ n; omega, by show n ≤ 7; omega, .inl rfl⟩
      · rw [List.mem_singleton.mp h4]
        refine ⟨by simp [i1], fun p hp => ?_⟩
        rcases List.mem_append.mp hp with hp | hp
        · exact i2 p hp
        · rw [List.mem_singleton.mp hp]; exact ⟨by show 1 ≤ n; omega, by show n ≤ 7; omega, .inr rfl⟩
section
variable {many most : Int} {st : Store}
theorem rg_ok {a b : Int} (h1 : -1000000 ≤ a) (h2 : a ≤ 1000000) (h3 : -1000000 ≤ b) (h4 : b ≤ 1000000) : rgOk a b = true := rgOk_small h1 h2 h3 h4
/-- the two longer rows -/
theorem two_ok {env : Env} {row : List (Int × Int)} {n : Int} {i j : Nat} (hl : row.length ≤ 10) (h1 : ∀ s, var_ i env s = .ok (kT row) s) (h2 : ∀ s, var_ j env s = .ok (.int n) s) :
    lst_ (cons_ (bin addW (var_ i) (tup_ (cons_ (tup_ (cons_ (var_ j) (cons_ (cst_ (.int 0)) (nil_)))) (nil_)))) (cons_ (bin addW (var_ i) (tup_ (cons_ (tup_ (cons_ (var_ j) (cons_ (cst_ (.int 1)) (nil_)))) (nil_)))) (nil_))) env st = .ok (lR [row ++ [(n, 0)], row ++ [(n, 1)]]) st := by
  have one : ∀ k : Int, bin addW (var_ i) (tup_ (cons_ (tup_ (cons_ (var_ j) (cons_ (cst_ (.int k)) (nil_)))) (nil_))) env st = .ok (kT (row ++ [(n, k)])) st := fun k => by
    refine bin_ok (x := kT row) (y := .tup [pr (n, k)]) (st1 := st) (st2 := st) (h1 st) (tup_ok (cons_ok (tup_ok (cons_ok (h2 st) (cons_ok (x := .int k) (st1 := st) rfl rfl)) (by show 2 ≤ 16777216; omega)) rfl) (by show 1 ≤ 16777216; omega)) ?_
    unfold kT
    rw [add_tup (by rw [List.length_map]; show row.length + 1 ≤ 1000000; omega), List.map_append]
    rfl
  exact lst_ok (cons_ok (one 0) (cons_ok (one 1) rfl)) (by show 2 ≤ 16777216; omega)
theorem used_ok {env : Env} {row : List (Int × Int)} {n : Int} {i j : Nat} (h1 : var_ i env st = .ok (.int n) st) (h2 : var_ j env st = .ok (lI (row.map (·.1))) st) : tst_ (bin ninW (var_ i) (var_ j)) env st = .ok (!decide (n ∈ row.map (·.1))) st :=
  tst_ok (bin_ok h1 h2 (nin_ints _ _ _))
def RF (a b : Int) (rows : List (List (Int × Int))) (c d e f g : Option O) : Env := [some (.w (.int a)), some (.w (.int b)), some (.w (lR rows)), c, d, e, f, g]
theorem rows_row {rows : List (List (Int × Int))} {longer : List (List (Int × Int))} {row : List (Int × Int)} {c f g : Option O} (h1 : 0 ≤ most) (h5 : most ≤ 5) (hr : row.length ≤ 10) (hl : longer.length ≤ 100000) :
    ∃ f' g', seq_ (s_rows_of_rules_5) (s_rows_of_rules_6) (RF many most rows c (some (.ol (longer.map kT))) (some (.w (kT row))) f g) st = .ok (.nx (RF many most rows c (some (.ol ((longer ++ (rgI 1 (most + 1)).flatMap (ext1 row)).map kT))) (some (.w (kT row))) f' g')) st := by
  have e5 : s_rows_of_rules_5 (RF many most rows c (some (.ol (longer.map kT))) (some (.w (kT row))) f g) st = .ok (.nx (RF many most rows c (some (.ol (longer.map kT))) (some (.w (kT row))) (some (.w (lI (row.map (·.1))))) g)) st := by
    refine asg_ok (w := lI (row.map (·.1))) (frzL_ok ?_)
    rw [comp_all (fi := looks_ (var_ 5)) (vs := [7, 3]) (b := bT 2 (bCons (bN 7) (bCons (bN 3) (bNil)))) (fe := var_ 7) (st := st) row pr (fun p => .int p.1) rfl fun p _ => ⟨_, rfl, rfl⟩, List.map_map]
    rfl
  obtain ⟨env', e6, g', he⟩ := forL_enc0 (b := bN 7) (f := s_rows_of_rules_7) (st := st) W.int (fun pre env => ∃ g, env = RF many most rows c (some (.ol ((longer ++ pre.flatMap (ext1 row)).map kT))) (some (.w (kT row))) (some (.w (lI (row.map (·.1))))) g) (rgI 1 (most + 1)) (RF many most rows c (some (.ol (longer.map kT))) (some (.w (kT row))) (some (.w (lI (row.map (·.1))))) g) ⟨g, by simp⟩ (fun pre n rest env hx ⟨g, he⟩ => by
    subst he
    have hpl : pre.length ≤ 5 := by
      have := congrArg List.length hx
      rw [rgI_length, List.length_append, List.length_cons] at this
      omega
    have hfl := flat_len (ext1 row) 2 pre fun n _ => ext1_len row n
    refine ⟨_, RF many most rows c (some (.ol ((longer ++ (pre ++ [n]).flatMap (ext1 row)).map kT))) (some (.w (kT row))) (some (.w (lI (row.map (·.1))))) (some (.w (.int n))), rfl, ?_, _, rfl⟩
    have t := used_ok (st := st) (env := RF many most rows c (some (.ol ((longer ++ pre.flatMap (ext1 row)).map kT))) (some (.w (kT row))) (some (.w (lI (row.map (·.1))))) (some (.w (.int n)))) (row := row) (n := n) (i := 7) (j := 6) rfl rfl
    by_cases hm : n ∈ row.map (·.1)
    · have e : (pre ++ [n]).flatMap (ext1 row) = pre.flatMap (ext1 row) := by
        rw [List.flatMap_append, List.flatMap_cons, List.flatMap_nil, List.append_nil]
        unfold ext1
        rw [if_pos hm, List.append_nil]
      rw [e]
      rw [decide_eq_true hm] at t
      exact if_f t rfl
    · have e : (pre ++ [n]).flatMap (ext1 row) = pre.flatMap (ext1 row) ++ [row ++ [(n, 0)], row ++ [(n, 1)]] := by
        rw [List.flatMap_append, List.flatMap_cons, List.flatMap_nil, List.append_nil]
        congr 1
        unfold ext1
        rw [if_neg hm]
      rw [e, ← List.append_assoc]
      rw [decide_eq_false hm] at t
      refine if_t t ?_
      have e2 := two_ok (st := st) (env := RF many most rows c (some (.ol ((longer ++ pre.flatMap (ext1 row)).map kT))) (some (.w (kT row))) (some (.w (lI (row.map (·.1))))) (some (.w (.int n)))) (row := row) (n := n) (i := 5) (j := 7) hr (fun _ => rfl) (fun _ => rfl)
      have e3 := ext_ok (i := 4) e2 (xs := (longer ++ pre.flatMap (ext1 row)).map kT) rfl (by
        rw [List.length_map, List.length_append]
        show _ + 2 ≤ 1000000
        omega)
      rw [List.map_append (l₁ := longer ++ pre.flatMap (ext1 row))]
      exact e3)
  subst he
  exact ⟨_, g', seq_ok e5 (for_ok (rng2_I (cons_ok (x := .int 1) (st1 := st) rfl (cons_ok (x := .int (most + 1)) (st1 := st) rfl rfl)) (rg_ok (by omega) (by omega) (by omega) (by omega))) e6)⟩
theorem rows_turn {rows : List (List (Int × Int))} {c d e f g : Option O} (h1 : 0 ≤ most) (h5 : most ≤ 5) (hr : ∀ row ∈ rows, row.length ≤ 10) (hl : rows.length ≤ 5000) :
    ∃ d' e' f' g', seq_ (s_rows_of_rules_3) (seq_ (s_rows_of_rules_4) (freeze_ 4 (s_rows_of_rules_9))) (RF many most rows c d e f g) st = .ok (.nx (RF many most (rowNext most rows) c d' e' f' g')) st := by
  obtain ⟨env', e4, e', f', g', he⟩ := forL_enc0 (b := bN 5) (f := seq_ (s_rows_of_rules_5) (s_rows_of_rules_6)) (st := st) kT (fun pre env => ∃ e f g, env = RF many most rows c (some (.ol ((pre.flatMap fun row => (rgI 1 (most + 1)).flatMap (ext1 row)).map kT))) e f g) rows (RF many most rows c (some (.ol [])) e f g) ⟨e, f, g, rfl⟩ (fun pre row rest env hx ⟨e, f, g, he⟩ => by
    subst he
    have hpl : pre.length ≤ 5000 := by
      have := congrArg List.length hx
      rw [List.length_append] at this
      omega
    have hfl := rowNext_len h1 h5 pre
    obtain ⟨f', g', e1⟩ := rows_row (many := many) (most := most) (st := st) (rows := rows) (longer := pre.flatMap fun row => (rgI 1 (most + 1)).flatMap (ext1 row)) (row := row) (c := c) (f := f) (g := g) h1 h5 (hr row (by rw [hx]; simp)) (by
      show (rowNext most pre).length ≤ 100000
      omega)
    refine ⟨_, _, rfl, e1, some (.w (kT row)), f', g', ?_⟩
    rw [List.flatMap_append, List.flatMap_cons, List.flatMap_nil, List.append_nil])
  subst he
  refine ⟨some (.w (lR (rowNext most rows))), e', f', g', seq_ok (env1 := RF many most rows c (some (.ol [])) e f g) (st1 := st) rfl (seq_ok (st1 := st) (for_ok (ws := rows.map kT) (st1 := st) rfl e4) rfl)⟩
theorem rows_ok {k : Nat} (hk : k ≤ 3) (h1 : 0 ≤ most) (h5 : most ≤ 5) : g_rows_of_rules [.int k, .int most] st = .ok (lR (rowsN most k)) st := by
  obtain ⟨env', e2, c, d, e, f, g, he⟩ := forL_enc0 (b := bN 3) (f := seq_ (s_rows_of_rules_3) (seq_ (s_rows_of_rules_4) (freeze_ 4 (s_rows_of_rules_9)))) (st := st) W.int (fun pre env => ∃ c d e f g, env = RF k most (rowsN most pre.length) c d e f g) (rgI 0 k) (RF k most [[]] none none none none none) ⟨_, _, _, _, _, rfl⟩ (fun pre n rest env hx ⟨c, d, e, f, g, he⟩ => by
    subst he
    have hpl : pre.length ≤ 2 := by
      have := congrArg List.length hx
      rw [rgI_length, List.length_append, List.length_cons] at this
      omega
    have hln := rowsN_len h1 h5 pre.length
    have hp : (10 : Nat) ^ pre.length ≤ 10 ^ 2 := Nat.pow_le_pow_right (by decide) hpl
    obtain ⟨d', e', f', g', e1⟩ := rows_turn (many := k) (most := most) (st := st) (rows := rowsN most pre.length) (c := some (.w (.int n))) (d := d) (e := e) (f := f) (g := g) h1 h5 (fun row hrow => by have := (rowsN_ok h5 _ row hrow).1; omega) (by omega)
    exact ⟨_, _, rfl, e1, some (.w (.int n)), d', e', f', g', by rw [List.length_append]; rfl⟩)
  subst he
  rw [rgI_length, Int.sub_zero, Int.toNat_natCast] at e2
  exact run_rt (seq_ok (env1 := RF k most [[]] none none none none none) (st1 := st) rfl (seq_ok (for_ok (rng1_I (n := (k : Int)) rfl (rg_ok (by omega) (by omega) (by omega) (by omega))) e2) rfl))
end
end Cr.L49
/-! P49b: the law's rows, what is found. -/
namespace Cr.L49
open PySem PySem.Spec PyProof.Rows L2
section
variable {many most : Int} {st : Store}
def LF (a b : Int) (rows : List (List (Int × Int))) (c d e f g h : Option O) : Env := [some (.w (.int a)), some (.w (.int b)), some (.w (lR rows)), c, d, e, f, g, h]
theorem lrows_row {rows : List (List (Int × Int))} {longer : List (List (Int × Int))} {row : List (Int × Int)} {c f g h : Option O} (h1 : 0 ≤ most) (h5 : most ≤ 5) (hr : row.length ≤ 10) (hl : longer.length ≤ 100000) :
    ∃ f' g', seq_ (s_law_rows_5) (s_law_rows_6) (LF many most rows c (some (.w (lR longer))) (some (.w (kT row))) f g h) st = .ok (.nx (LF many most rows c (some (.w (lR (longer ++ (rgI 1 (most + 1)).flatMap (ext1 row))))) (some (.w (kT row))) f' g' h)) st := by
  have e5 : s_law_rows_5 (LF many most rows c (some (.w (lR longer))) (some (.w (kT row))) f g h) st = .ok (.nx (LF many most rows c (some (.w (lR longer))) (some (.w (kT row))) (some (.w (lI (row.map (·.1))))) g h)) st := by
    refine asg_ok (w := lI (row.map (·.1))) (frzL_ok ?_)
    rw [comp_all (fi := looks_ (var_ 5)) (vs := [7, 8]) (b := bT 2 (bCons (bN 7) (bCons (bN 8) (bNil)))) (fe := var_ 7) (st := st) row pr (fun p => .int p.1) rfl fun p _ => ⟨_, rfl, rfl⟩, List.map_map]
    rfl
  obtain ⟨env', e6, g', he⟩ := forL_enc0 (b := bN 7) (f := s_law_rows_7) (st := st) W.int (fun pre env => ∃ g, env = LF many most rows c (some (.w (lR (longer ++ pre.flatMap (ext1 row))))) (some (.w (kT row))) (some (.w (lI (row.map (·.1))))) g h) (rgI 1 (most + 1)) (LF many most rows c (some (.w (lR longer))) (some (.w (kT row))) (some (.w (lI (row.map (·.1))))) g h) ⟨g, by simp⟩ (fun pre n rest env hx ⟨g, he⟩ => by
    subst he
    have hpl : pre.length ≤ 5 := by
      have := congrArg List.length hx
      rw [rgI_length, List.length_append, List.length_cons] at this
      omega
    have hfl := flat_len (ext1 row) 2 pre fun n _ => ext1_len row n
    refine ⟨_, LF many most rows c (some (.w (lR (longer ++ (pre ++ [n]).flatMap (ext1 row))))) (some (.w (kT row))) (some (.w (lI (row.map (·.1))))) (some (.w (.int n))) h, rfl, ?_, _, rfl⟩
    have t := used_ok (st := st) (env := LF many most rows c (some (.w (lR (longer ++ pre.flatMap (ext1 row))))) (some (.w (kT row))) (some (.w (lI (row.map (·.1))))) (some (.w (.int n))) h) (row := row) (n := n) (i := 7) (j := 6) rfl rfl
    by_cases hm : n ∈ row.map (·.1)
    · have e : (pre ++ [n]).flatMap (ext1 row) = pre.flatMap (ext1 row) := by
        rw [List.flatMap_append, List.flatMap_cons, List.flatMap_nil, List.append_nil]
        unfold ext1
        rw [if_pos hm, List.append_nil]
      rw [e]
      rw [decide_eq_true hm] at t
      exact if_f t rfl
    · have e : (pre ++ [n]).flatMap (ext1 row) = pre.flatMap (ext1 row) ++ [row ++ [(n, 0)], row ++ [(n, 1)]] := by
        rw [List.flatMap_append, List.flatMap_cons, List.flatMap_nil, List.append_nil]
        congr 1
        unfold ext1
        rw [if_neg hm]
      rw [e, ← List.append_assoc]
      rw [decide_eq_false hm] at t
      refine if_t t ?_
      have e2 := two_ok (st := st) (env := LF many most rows c (some (.w (lR (longer ++ pre.flatMap (ext1 row))))) (some (.w (kT row))) (some (.w (lI (row.map (·.1))))) (some (.w (.int n))) h) (row := row) (n := n) (i := 5) (j := 7) hr (fun _ => rfl) (fun _ => rfl)
      have e3 := add_lst (st := st) (xs := (longer ++ pre.flatMap (ext1 row)).map kT) (ys := [row ++ [(n, 0)], row ++ [(n, 1)]].map kT) (by
        rw [List.length_map, List.length_append]
        show _ + 2 ≤ 1000000
        omega)
      rw [← List.map_append] at e3
      exact asg_ok (bin_ok (x := lR (longer ++ pre.flatMap (ext1 row))) (y := lR [row ++ [(n, 0)], row ++ [(n, 1)]]) (st1 := st) (st2 := st) rfl e2 e3))
  subst he
  exact ⟨_, g', seq_ok e5 (for_ok (rng2_I (cons_ok (x := .int 1) (st1 := st) rfl (cons_ok (x := .int (most + 1)) (st1 := st) rfl rfl)) (rg_ok (by omega) (by omega) (by omega) (by omega))) e6)⟩
theorem lrows_turn {rows : List (List (Int × Int))} {c d e f g h : Option O} (h1 : 0 ≤ most) (h5 : most ≤ 5) (hr : ∀ row ∈ rows, row.length ≤ 10) (hl : rows.length ≤ 5000) :
    ∃ d' e' f' g', seq_ (s_law_rows_3) (seq_ (s_law_rows_4) (s_law_rows_9)) (LF many most rows c d e f g h) st = .ok (.nx (LF many most (rowNext most rows) c d' e' f' g' h)) st := by
  obtain ⟨env', e4, e', f', g', he⟩ := forL_enc0 (b := bN 5) (f := seq_ (s_law_rows_5) (s_law_rows_6)) (st := st) kT (fun pre env => ∃ e f g, env = LF many most rows c (some (.w (lR (pre.flatMap fun row => (rgI 1 (most + 1)).flatMap (ext1 row))))) e f g h) rows (LF many most rows c (some (.w (lR []))) e f g h) ⟨e, f, g, rfl⟩ (fun pre row rest env hx ⟨e, f, g, he⟩ => by
    subst he
    have hpl : pre.length ≤ 5000 := by
      have := congrArg List.length hx
      rw [List.length_append] at this
      omega
    have hfl := rowNext_len h1 h5 pre
    obtain ⟨f', g', e1⟩ := lrows_row (many := many) (most := most) (st := st) (rows := rows) (longer := pre.flatMap fun row => (rgI 1 (most + 1)).flatMap (ext1 row)) (row := row) (c := c) (f := f) (g := g) (h := h) h1 h5 (hr row (by rw [hx]; simp)) (by
      show (rowNext most pre).length ≤ 100000
      omega)
    refine ⟨_, _, rfl, e1, some (.w (kT row)), f', g', ?_⟩
    rw [List.flatMap_append, List.flatMap_cons, List.flatMap_nil, List.append_nil])
  subst he
  refine ⟨some (.w (lR (rowNext most rows))), e', f', g', seq_ok (env1 := LF many most rows c (some (.w (lR []))) e f g h) (st1 := st) rfl (seq_ok (st1 := st) (for_ok (ws := rows.map kT) (st1 := st) rfl e4) rfl)⟩
theorem lrows_ok {k : Nat} (hk : k ≤ 3) (h1 : 0 ≤ most) (h5 : most ≤ 5) : g_law_rows [.int k, .int most] st = .ok (lR (rowsN most k)) st := by
  obtain ⟨env', e2, c, d, e, f, g, h, he⟩ := forL_enc0 (b := bN 3) (f := seq_ (s_law_rows_3) (seq_ (s_law_rows_4) (s_law_rows_9))) (st := st) W.int (fun pre env => ∃ c d e f g h, env = LF k most (rowsN most pre.length) c d e f g h) (rgI 0 k) (LF k most [[]] none none none none none none) ⟨_, _, _, _, _, _, rfl⟩ (fun pre n rest env hx ⟨c, d, e, f, g, h, he⟩ => by
    subst he
    have hpl : pre.length ≤ 2 := by
      have := congrArg List.length hx
      rw [rgI_length, List.length_append, List.length_cons] at this
      omega
    have hln := rowsN_len h1 h5 pre.length
    have hp : (10 : Nat) ^ pre.length ≤ 10 ^ 2 := Nat.pow_le_pow_right (by decide) hpl
    obtain ⟨d', e', f', g', e1⟩ := lrows_turn (many := k) (most := most) (st := st) (rows := rowsN most pre.length) (c := some (.w (.int n))) (d := d) (e := e) (f := f) (g := g) (h := h) h1 h5 (fun row hrow => by have := (rowsN_ok h5 _ row hrow).1; omega) (by omega)
    exact ⟨_, _, rfl, e1, some (.w (.int n)), d', e', f', g', h, by rw [List.length_append]; rfl⟩)
  subst he
  rw [rgI_length, Int.sub_zero, Int.toNat_natCast] at e2
  exact run_rt (seq_ok (env1 := LF k most [[]] none none none none none none) (st1 := st) rfl (seq_ok (for_ok (rng1_I (n := (k : Int)) rfl (rg_ok (by omega) (by omega) (by omega) (by omega))) e2) rfl))

/-! ### what is found -/
def fitB (signs : List Int) (rs : List (Int × Int)) : Bool := decide ((rgI 0 signs.length).map (fun k => lp rs (k + 1)) = signs)
theorem map_eq_all (f : Int → Int) : ∀ (xs ys : List Int) (off : Nat) (g : Int → Bool), xs.length = ys.length → (∀ i : Nat, (h : i < xs.length) → g xs[i] = decide (∃ y, ys[i]? = some y ∧ f xs[i] = y)) → xs.all g = decide (xs.map f = ys)
  | [], [], _, _, _, _ => by simp
  | [], _ :: _, _, _, h, _ => by simp at h
  | _ :: _, [], _, _, h, _ => by simp at h
  | x :: xs, y :: ys, off, g, hl, hg => by
    have h0 := hg 0 (by simp)
    have ih := map_eq_all f xs ys off g (by simpa using hl) fun i h => by
      have := hg (i + 1) (by simpa using h)
      simpa using this
    rw [List.all_cons, ih]
    simp only [List.getElem_cons_zero, List.getElem?_cons_zero] at h0
    rw [h0, List.map_cons]
    by_cases hx : f x = y
    · simp [hx]
    · have : ¬ y = f x := fun z => hx z.symm
      simp [hx, this]
theorem bools_map {α : Type} (q : α → Bool) : ∀ xs : List α, boolsOf (xs.map fun x => .bl (q x)) = some (xs.map q)
  | [] => rfl
  | x :: xs => by
    rw [List.map_cons, List.map_cons]
    unfold boolsOf
    rw [bools_map q xs]
    rfl
theorem rgI0_get {n : Int} {i : Nat} (h : i < (rgI 0 n).length) : (rgI 0 n)[i] = (i : Int) := by
  unfold rgI
  simp
theorem fits_ok {signs : List Int} {rs : List (Int × Int)} (hs : ∀ x ∈ signs, x = 0 ∨ x = 1) (hl : signs.length ≤ 100) (h : ∀ p ∈ rs, ROk p) : g_fits_signs [kT rs, tI signs] st = .ok (.bl (fitB signs rs)) st := by
  have hr : rng1_ (cons_ (un lenW (var_ 1)) (nil_)) [some (.w (kT rs)), some (.w (tI signs)), none] st = .ok ((rgI 0 signs.length).map .int) st := rng1_I (cons_ok (x := .int signs.length) (st1 := st) (un_ok (x := tI signs) (st1 := st) rfl (len_tI _ _)) rfl) (rg_ok (by omega) (by omega) (by omega) (by omega))
  let q : Int → Bool := fun k => decide ((if lp rs (k + 1) = 1 then 1 else 0 : Int) = (signs[k.toNat]?).getD 0)
  have hc := comp_all (vs := [2]) (b := bN 2) (fe := bin eqW (un intW (call_ g_told_by (cons_ (var_ 0) (cons_ (bin addW (var_ 2) (cst_ (.int 1))) (nil_))))) (bin ixW (var_ 1) (var_ 2))) (env := [some (.w (kT rs)), some (.w (tI signs)), none]) (st := st) (rgI 0 signs.length) W.int (fun k => .bl (q k)) hr fun k hk => by
    have hk' := mem_rgI.mp hk
    have hget : signs[k.toNat]? = some (signs[k.toNat]'(by omega)) := List.getElem?_eq_getElem (by omega)
    refine ⟨[some (.w (kT rs)), some (.w (tI signs)), some (.w (.int k))], rfl, bin_ok (x := .int (if lp rs (k + 1) = 1 then 1 else 0)) (y := .int ((signs[k.toNat]?).getD 0)) (st1 := st) (st2 := st) (un_ok (call_ok (ws := [kT rs, .int (k + 1)]) (st1 := st) rfl (told_ok h)) ?_) (bin_ok (x := tI signs) (y := .int k) (st1 := st) (st2 := st) rfl rfl ?_) (eq_int _ _ _)⟩
    · unfold intW
      by_cases hp : lp rs (k + 1) = 1 <;> simp [hp]
    · refine ix_tup ?_ st
      have e : ((signs.map W.int)[k.toNat]?) = some (.int ((signs[k.toNat]?).getD 0)) := by
        rw [List.getElem?_map, hget]
        rfl
      have := atI_ok e
      rwa [show ((k.toNat : Nat) : Int) = k by omega] at this
  have hall : ((rgI 0 signs.length).map q).all id = fitB signs rs := by
    rw [List.all_map]
    unfold fitB
    refine map_eq_all _ _ _ 0 _ (by rw [rgI_length]; omega) fun i hi => ?_
    rw [rgI0_get hi]
    rw [rgI_length] at hi
    have hi2 : i < signs.length := by omega
    show q (i : Int) = _
    have e1 : ((i : Int)).toNat = i := by omega
    have e2 : signs[i]? = some (signs[i]) := List.getElem?_eq_getElem hi2
    show decide ((if lp rs ((i : Int) + 1) = 1 then 1 else 0 : Int) = (signs[((i : Int)).toNat]?).getD 0) = _
    rw [e1, e2]
    have e3 : (∃ y, some signs[i] = some y ∧ lp rs ((i : Int) + 1) = y) ↔ lp rs ((i : Int) + 1) = signs[i] := by
      constructor
      · rintro ⟨y, h1, h2⟩; cases h1; exact h2
      · intro h; exact ⟨_, rfl, h⟩
    rw [decide_eq_decide, e3]
    rcases lp_bit (y := (i : Int) + 1) h with hp | hp <;> simp [hp]
  have ha : allW (.lst ((rgI 0 signs.length).map fun k => .bl (q k))) st = .ok (.bl (fitB signs rs)) st := by
    unfold allW
    simp only [bools_map]
    rw [hall]
  have e00 := frzL_ok hc
  have e0 := un_ok (g := allW) e00 ha
  have e01 := ret_ok e0
  have e1 : fb_fits_signs [some (.w (kT rs)), some (.w (tI signs)), none] st = .ok (.rt (.bl (fitB signs rs))) st := by
    unfold fb_fits_signs s_fits_signs_1
    exact e01
  exact run_rt e1
theorem lfits_ok {env : Env} {signs : List Int} {rs : List (Int × Int)} {a b : Option O} (hl : signs.length ≤ 100) (h : ∀ p ∈ rs, ROk p) :
    tst_ (bin eqW (frzL_ (comp_ (rng1_ (cons_ (un lenW (var_ 0)) (nil_))) [4] (bN 4) (yes_) (call_ g_law_leap (cons_ (var_ 3) (cons_ (bin addW (var_ 4) (cst_ (.int 1))) (nil_)))))) (un listW (var_ 0))) [some (.w (tI signs)), a, b, some (.w (kT rs)), none] st = .ok (fitB signs rs) st := by
  have hr : rng1_ (cons_ (un lenW (var_ 0)) (nil_)) [some (.w (tI signs)), a, b, some (.w (kT rs)), none] st = .ok ((rgI 0 signs.length).map .int) st := rng1_I (cons_ok (x := .int signs.length) (st1 := st) (un_ok (x := tI signs) (st1 := st) rfl (len_tI _ _)) rfl) (rg_ok (by omega) (by omega) (by omega) (by omega))
  have hc := comp_all (vs := [4]) (b := bN 4) (fe := call_ g_law_leap (cons_ (var_ 3) (cons_ (bin addW (var_ 4) (cst_ (.int 1))) (nil_)))) (env := [some (.w (tI signs)), a, b, some (.w (kT rs)), none]) (st := st) (rgI 0 signs.length) W.int (fun k => .int (lp rs (k + 1))) hr fun k hk =>
    ⟨[some (.w (tI signs)), a, b, some (.w (kT rs)), some (.w (.int k))], rfl, call_ok (ws := [kT rs, .int (k + 1)]) (st1 := st) rfl (leap_ok h)⟩
  have e := eq_lI ((rgI 0 signs.length).map fun k => lp rs (k + 1)) signs st
  have el : W.lst ((rgI 0 signs.length).map fun k => .int (lp rs (k + 1))) = lI ((rgI 0 signs.length).map fun k => lp rs (k + 1)) := by
    unfold lI
    rw [List.map_map]
    rfl
  refine tst_ok (bin_ok (frzL_ok hc) (un_ok (x := tI signs) (st1 := st) (r := .ok (lI signs) st) rfl rfl) ?_)
  rw [el]
  exact e
def ans (signs : List Int) (row : List (Int × Int)) : Option W := if fitB signs row = true then some (.tup [.str "yes", kT row]) else none
def outI (signs : List Int) (most : Int) (k : Int) : Option W := (rowsN most k.toNat).findSome? (ans signs)
def found (signs : List Int) (most : Int) : W := ((rgI 0 4).findSome? (outI signs most)).getD (.tup [.str "no"])
theorem findSome_map {α β γ : Type} (f : α → β) (o : β → Option γ) (o2 : α → Option γ) (h : ∀ x, o (f x) = o2 x) : ∀ xs : List α, (xs.map f).findSome? o = xs.findSome? o2
  | [] => rfl
  | x :: xs => by
    rw [List.map_cons, List.findSome?_cons, List.findSome?_cons, h, findSome_map f o o2 h xs]
theorem for_rules_ok {signs : List Int} (hs : ∀ x ∈ signs, x = 0 ∨ x = 1) (hl : signs.length ≤ 100) (h1 : 0 ≤ most) (h5 : most ≤ 5) : g_leap_rules_for [tI signs, .int most] st = .ok (found signs most) st := by
  let un1 : W → List (Int × Int) := fun w => match w with
    | .tup ps => ps.map fun p => match p with | .tup [.int a, .int b] => (a, b) | _ => (0, 0)
    | _ => []
  have hun : ∀ rs, un1 (kT rs) = rs := fun rs => by
    show (rs.map pr).map _ = rs
    rw [List.map_map]
    conv => rhs; rw [← List.map_id rs]
    exact List.map_congr_left fun p _ => rfl
  let unI : W → Int := fun w => match w with | .int k => k | _ => 0
  have inner : ∀ (k : Int) (c : Option O), 0 ≤ k → k < 4 → match outI signs most k with
      | some v => s_leap_rules_for_2 [some (.w (tI signs)), some (.w (.int most)), some (.w (.int k)), c] st = .ok (.rt v) st
      | none => ∃ c', s_leap_rules_for_2 [some (.w (tI signs)), some (.w (.int most)), some (.w (.int k)), c] st = .ok (.nx [some (.w (tI signs)), some (.w (.int most)), some (.w (.int k)), c']) st := fun k c hk0 hk4 => by
    have hR := rows_ok (most := most) (st := st) (k := k.toNat) (by omega) h1 h5
    rw [show ((k.toNat : Nat) : Int) = k by omega] at hR
    have e := forL_some (b := bN 3) (f := s_leap_rules_for_3) (st := st) (fun env => ∃ c, env = [some (.w (tI signs)), some (.w (.int most)), some (.w (.int k)), c]) (fun w => ans signs (un1 w)) ((rowsN most k.toNat).map kT) [some (.w (tI signs)), some (.w (.int most)), some (.w (.int k)), c] ⟨c, rfl⟩ (fun w hw env ⟨c, he⟩ => by
      subst he
      obtain ⟨rs, hrs, rfl⟩ := List.mem_map.mp hw
      have hok := (rowsN_ok h5 _ rs hrs).2
      refine ⟨[some (.w (tI signs)), some (.w (.int most)), some (.w (.int k)), some (.w (kT rs))], rfl, ?_⟩
      have t : tst_ (call_ g_fits_signs (cons_ (var_ 3) (cons_ (var_ 0) (nil_)))) [some (.w (tI signs)), some (.w (.int most)), some (.w (.int k)), some (.w (kT rs))] st = .ok (fitB signs rs) st := tst_ok (call_ok (ws := [kT rs, tI signs]) (st1 := st) rfl (fits_ok hs hl hok))
      rw [hun]
      unfold ans
      by_cases hf : fitB signs rs = true
      · rw [if_pos hf]
        rw [hf] at t
        exact if_t t rfl
      · rw [if_neg hf]
        have hf' : fitB signs rs = false := by simpa using hf
        rw [hf'] at t
        exact ⟨_, if_f t rfl, _, rfl⟩)
    rw [findSome_map kT (fun w => ans signs (un1 w)) (ans signs) fun rs => by rw [hun]] at e
    have hi : items_ (call_ g_rows_of_rules (cons_ (var_ 2) (cons_ (var_ 1) (nil_)))) [some (.w (tI signs)), some (.w (.int most)), some (.w (.int k)), c] st = .ok ((rowsN most k.toNat).map kT) st := by
      have e0 : call_ g_rows_of_rules (cons_ (var_ 2) (cons_ (var_ 1) (nil_))) [some (.w (tI signs)), some (.w (.int most)), some (.w (.int k)), c] st = .ok (lR (rowsN most k.toNat)) st := call_ok (ws := [.int k, .int most]) (st1 := st) rfl hR
      unfold items_
      rw [e0]
      rfl
    unfold outI
    cases hf : (rowsN most k.toNat).findSome? (ans signs) with
    | some v =>
      rw [hf] at e
      exact for_ok hi e
    | none =>
      rw [hf] at e
      obtain ⟨env', e1, c', rfl⟩ := e
      exact ⟨c', for_ok hi e1⟩
  have e := forL_some (b := bN 2) (f := s_leap_rules_for_2) (st := st) (fun env => ∃ b c, env = [some (.w (tI signs)), some (.w (.int most)), b, c]) (fun w => outI signs most (unI w)) ((rgI 0 4).map .int) [some (.w (tI signs)), some (.w (.int most)), none, none] ⟨none, none, rfl⟩ (fun w hw env ⟨b, c, he⟩ => by
    subst he
    obtain ⟨k, hk, rfl⟩ := List.mem_map.mp hw
    have hk' := mem_rgI.mp hk
    refine ⟨[some (.w (tI signs)), some (.w (.int most)), some (.w (.int k)), c], rfl, ?_⟩
    have e := inner k c hk'.1 hk'.2
    show match outI signs most k with | some v => _ | none => _
    cases ho : outI signs most k with
    | some v => rw [ho] at e; exact e
    | none =>
      rw [ho] at e
      obtain ⟨c', e⟩ := e
      exact ⟨_, e, _, _, rfl⟩)
  rw [findSome_map W.int (fun w => outI signs most (unI w)) (outI signs most) fun _ => rfl] at e
  have hr : rng1_ (cons_ (cst_ (.int 4)) (nil_)) [some (.w (tI signs)), some (.w (.int most)), none, none] st = .ok ((rgI 0 4).map .int) st := rng1_I rfl (rg_ok (by omega) (by omega) (by omega) (by omega))
  unfold found
  cases hf : (rgI 0 4).findSome? (outI signs most) with
  | some v =>
    rw [hf] at e
    exact run_rt (seq_rt (for_ok hr e))
  | none =>
    rw [hf] at e
    obtain ⟨env', e1, b, c, rfl⟩ := e
    exact run_rt (seq_ok (for_ok hr e1) rfl)
theorem law_found_ok {signs : List Int} (hl : signs.length ≤ 100) (h1 : 0 ≤ most) (h5 : most ≤ 5) : g_law_found [tI signs, .int most] st = .ok (found signs most) st := by
  let un1 : W → List (Int × Int) := fun w => match w with
    | .tup ps => ps.map fun p => match p with | .tup [.int a, .int b] => (a, b) | _ => (0, 0)
    | _ => []
  have hun : ∀ rs, un1 (kT rs) = rs := fun rs => by
    show (rs.map pr).map _ = rs
    rw [List.map_map]
    conv => rhs; rw [← List.map_id rs]
    exact List.map_congr_left fun p _ => rfl
  let unI : W → Int := fun w => match w with | .int k => k | _ => 0
  have inner : ∀ (k : Int) (c : Option O), 0 ≤ k → k < 4 → match outI signs most k with
      | some v => s_law_found_2 [some (.w (tI signs)), some (.w (.int most)), some (.w (.int k)), c, none] st = .ok (.rt v) st
      | none => ∃ c', s_law_found_2 [some (.w (tI signs)), some (.w (.int most)), some (.w (.int k)), c, none] st = .ok (.nx [some (.w (tI signs)), some (.w (.int most)), some (.w (.int k)), c', none]) st := fun k c hk0 hk4 => by
    have hR := lrows_ok (most := most) (st := st) (k := k.toNat) (by omega) h1 h5
    rw [show ((k.toNat : Nat) : Int) = k by omega] at hR
    have e := forL_some (b := bN 3) (f := s_law_found_3) (st := st) (fun env => ∃ c, env = [some (.w (tI signs)), some (.w (.int most)), some (.w (.int k)), c, none]) (fun w => ans signs (un1 w)) ((rowsN most k.toNat).map kT) [some (.w (tI signs)), some (.w (.int most)), some (.w (.int k)), c, none] ⟨c, rfl⟩ (fun w hw env ⟨c, he⟩ => by
      subst he
      obtain ⟨rs, hrs, rfl⟩ := List.mem_map.mp hw
      have hok := (rowsN_ok h5 _ rs hrs).2
      refine ⟨[some (.w (tI signs)), some (.w (.int most)), some (.w (.int k)), some (.w (kT rs)), none], rfl, ?_⟩
      have t := lfits_ok (st := st) (env := []) (signs := signs) (rs := rs) (a := some (.w (.int most))) (b := some (.w (.int k))) hl hok
      rw [hun]
      unfold ans
      by_cases hf : fitB signs rs = true
      · rw [if_pos hf]
        rw [hf] at t
        exact if_t t rfl
      · rw [if_neg hf]
        have hf' : fitB signs rs = false := by simpa using hf
        rw [hf'] at t
        exact ⟨_, if_f t rfl, _, rfl⟩)
    rw [findSome_map kT (fun w => ans signs (un1 w)) (ans signs) fun rs => by rw [hun]] at e
    have hi : items_ (call_ g_law_rows (cons_ (var_ 2) (cons_ (var_ 1) (nil_)))) [some (.w (tI signs)), some (.w (.int most)), some (.w (.int k)), c, none] st = .ok ((rowsN most k.toNat).map kT) st := by
      have e0 : call_ g_law_rows (cons_ (var_ 2) (cons_ (var_ 1) (nil_))) [some (.w (tI signs)), some (.w (.int most)), some (.w (.int k)), c, none] st = .ok (lR (rowsN most k.toNat)) st := call_ok (ws := [.int k, .int most]) (st1 := st) rfl hR
      unfold items_
      rw [e0]
      rfl
    unfold outI
    cases hf : (rowsN most k.toNat).findSome? (ans signs) with
    | some v =>
      rw [hf] at e
      exact for_ok hi e
    | none =>
      rw [hf] at e
      obtain ⟨env', e1, c', rfl⟩ := e
      exact ⟨c', for_ok hi e1⟩
  have e := forL_some (b := bN 2) (f := s_law_found_2) (st := st) (fun env => ∃ b c, env = [some (.w (tI signs)), some (.w (.int most)), b, c, none]) (fun w => outI signs most (unI w)) ((rgI 0 4).map .int) [some (.w (tI signs)), some (.w (.int most)), none, none, none] ⟨none, none, rfl⟩ (fun w hw env ⟨b, c, he⟩ => by
    subst he
    obtain ⟨k, hk, rfl⟩ := List.mem_map.mp hw
    have hk' := mem_rgI.mp hk
    refine ⟨[some (.w (tI signs)), some (.w (.int most)), some (.w (.int k)), c, none], rfl, ?_⟩
    have e := inner k c hk'.1 hk'.2
    show match outI signs most k with | some v => _ | none => _
    cases ho : outI signs most k with
    | some v => rw [ho] at e; exact e
    | none =>
      rw [ho] at e
      obtain ⟨c', e⟩ := e
      exact ⟨_, e, _, _, rfl⟩)
  rw [findSome_map W.int (fun w => outI signs most (unI w)) (outI signs most) fun _ => rfl] at e
  have hr : rng1_ (cons_ (cst_ (.int 4)) (nil_)) [some (.w (tI signs)), some (.w (.int most)), none, none, none] st = .ok ((rgI 0 4).map .int) st := rng1_I rfl (rg_ok (by omega) (by omega) (by omega) (by omega))
  unfold found
  cases hf : (rgI 0 4).findSome? (outI signs most) with
  | some v =>
    rw [hf] at e
    exact run_rt (seq_rt (for_ok hr e))
  | none =>
    rw [hf] at e
    obtain ⟨env', e1, b, c, rfl⟩ := e
    exact run_rt (seq_ok (for_ok hr e1) rfl)
theorem found_fine {signs : List Int} (h5 : most ≤ 5) : Fine (found signs most) := by
  unfold found
  cases hf : (rgI 0 4).findSome? (outI signs most) with
  | none => exact ⟨by decide, by decide +kernel, by decide +kernel⟩
  | some v =>
    obtain ⟨k, hk, ho⟩ := List.exists_of_findSome?_eq_some hf
    obtain ⟨row, hrow, ha⟩ := List.exists_of_findSome?_eq_some (show (rowsN most k.toNat).findSome? (ans signs) = some v from ho)
    obtain ⟨hlen, hok⟩ := rowsN_ok h5 _ row hrow
    have hk' := mem_rgI.mp hk
    unfold ans at ha
    split at ha <;> cases ha
    have sm : ∀ rs : List (Int × Int), (∀ p ∈ rs, ROk p) → W.smL (rs.map pr) = true ∧ W.wtL (rs.map pr) = 131 * rs.length := fun rs => by
      induction rs with
      | nil => intro _; exact ⟨rfl, rfl⟩
      | cons p rs ih =>
        intro h
        obtain ⟨i1, i2⟩ := ih fun q hq => h q (List.mem_cons_of_mem _ hq)
        have hp := h p List.mem_cons_self
        have e : (10 : Nat) ^ 12 = 1000000000000 := by decide
        have s1 : p.1.natAbs < 10 ^ 12 := by rw [e]; have := hp.n1; have := hp.n2; omega
        have s2 : p.2.natAbs < 10 ^ 12 := by rw [e]; have := hp.s; omega
        constructor
        · rw [List.map_cons]
          simp only [W.smL, pr, W.sm, s1, s2, i1, decide_true, Bool.and_self]
        · rw [List.map_cons]
          simp only [W.wtL, pr, W.wt, i2, List.length_cons]
          omega
    obtain ⟨i1, i2⟩ := sm row hok
    refine ⟨?_, ?_, ?_⟩
    · simp only [Option.getD_some, W.fit, kT, List.all_cons, List.all_nil, List.all_map, Bool.and_true, Bool.true_and, List.all_eq_true]
      intro p _
      simp [pr, W.fit]
    · simp only [Option.getD_some, W.sm, W.smL, kT, i1, Bool.and_true]
      decide +kernel
    · have : (Str.length ("yes" : Str)) ≤ 10 := by decide +kernel
      simp only [Option.getD_some, W.wt, W.wtL, kT, i2]
      omega
end
end Cr.L49
/-! P49c: years told, rules that are alike. -/
namespace Cr.L49
open PySem PySem.Spec PyProof.Rows L2
section
variable {st : Store} {rs : List (Int × Int)}
def yt (rs : List (Int × Int)) (a b : Int) : List Int := (rgI a b).filter fun y => decide (lp rs y = 1)
theorem years_ok {a b : Int} (h : ∀ p ∈ rs, ROk p) (h1 : -10000 ≤ a) (h2 : a ≤ 10000) (h3 : -10000 ≤ b) (h4 : b ≤ 10000) : g_years_told [kT rs, .int a, .int b] st = .ok (tI (yt rs a b)) st := by
  have hr : rng2_ (cons_ (var_ 1) (cons_ (var_ 2) (nil_))) [some (.w (kT rs)), some (.w (.int a)), some (.w (.int b)), none] st = .ok ((rgI a b).map .int) st := rng2_I (cons_ok (x := .int a) (st1 := st) rfl (cons_ok (x := .int b) (st1 := st) rfl rfl)) (rg_ok (by omega) (by omega) (by omega) (by omega))
  have hc := comp_of (vs := [3]) (b := bN 3) (ft := tst_ (call_ g_told_by (cons_ (var_ 0) (cons_ (var_ 3) (nil_))))) (fe := var_ 3) (env := [some (.w (kT rs)), some (.w (.int a)), some (.w (.int b)), none]) (st := st) (rgI a b) W.int (fun y => decide (lp rs y = 1)) W.int hr fun y hy =>
    ⟨[some (.w (kT rs)), some (.w (.int a)), some (.w (.int b)), some (.w (.int y))], rfl, tst_ok (call_ok (ws := [kT rs, .int y]) (st1 := st) rfl (told_ok h)), fun _ => rfl⟩
  have e0 := un_ok (g := tupleW) (r := .ok (tI (yt rs a b)) st) (frzL_ok hc) rfl
  have e1 := ret_ok e0
  have e2 : fb_years_told [some (.w (kT rs)), some (.w (.int a)), some (.w (.int b)), none] st = .ok (.rt (tI (yt rs a b))) st := by
    unfold fb_years_told s_years_told_1
    exact e1
  exact run_rt e2
theorem common_loop (b : Nat) : ∀ a : Nat, whl_ (tst_ (bin gtW (var_ 1) (cst_ (.int 0)))) s_common_3 [some (.w (.int a)), some (.w (.int b))] st = .ok (.nx [some (.w (.int (Nat.gcd a b : Nat))), some (.w (.int 0))]) st := by
  induction b using Nat.strongRecOn with
  | ind b ih =>
    intro a
    by_cases hb : b = 0
    · subst hb
      rw [Nat.gcd_zero_right]
      exact whl_stop (tst_ok (bin_ok (x := .int 0) (y := .int 0) (st1 := st) (st2 := st) rfl rfl rfl))
    · have hpos : 0 < b := Nat.pos_of_ne_zero hb
      have e1 : s_common_3 [some (.w (.int a)), some (.w (.int b))] st = .ok (.nx [some (.w (.int b)), some (.w (.int ((a % b : Nat) : Int)))]) st := by
        have e2 : bin modW (var_ 0) (var_ 1) [some (.w (.int a)), some (.w (.int b))] st = .ok (.int ((a % b : Nat) : Int)) st := by
          have e3 : ((a : Int)).fmod (b : Int) = ((a % b : Nat) : Int) := by
            rw [Int.fmod_eq_emod_of_nonneg _ (by omega)]
            exact (Int.natCast_emod a b).symm
          have := mod_ok (a := (a : Int)) (b := (b : Int)) (by omega) st
          rw [e3] at this
          exact bin_ok (x := .int a) (y := .int b) (st1 := st) (st2 := st) rfl rfl this
        have e4 : cons_ (var_ 1) (cons_ (bin modW (var_ 0) (var_ 1)) (nil_)) [some (.w (.int a)), some (.w (.int b))] st = .ok [.int b, .int ((a % b : Nat) : Int)] st := cons_ok (x := .int b) (st1 := st) rfl (cons_ok e2 rfl)
        unfold s_common_3 par_
        rw [e4]
        rfl
      have hg : Nat.gcd a b = Nat.gcd b (a % b) := by
        rw [Nat.gcd_comm a b, Nat.gcd_rec b a, Nat.gcd_comm]
      rw [hg]
      refine whl_go (tst_ok (bin_ok (x := .int b) (y := .int 0) (st1 := st) (st2 := st) rfl rfl ?_)) e1 (ih (a % b) (Nat.mod_lt _ hpos) b)
      unfold gtW
      simp [hpos]
theorem common_ok (a b : Nat) : g_common [.int a, .int b] st = .ok (.int (Nat.gcd a b : Nat)) st := by
  have ha : ∀ n : Nat, absW (.int (n : Int)) st = .ok (.int (n : Int)) st := fun n => by
    unfold absW
    have : ¬ ((n : Int) < 0) := by omega
    simp only [this, if_false]
  have e4 : cons_ (un absW (var_ 0)) (cons_ (un absW (var_ 1)) (nil_)) [some (.w (.int a)), some (.w (.int b))] st = .ok [.int a, .int b] st := cons_ok (un_ok (x := .int a) (st1 := st) rfl (ha a)) (cons_ok (un_ok (x := .int b) (st1 := st) rfl (ha b)) rfl)
  have e1 : s_common_1 [some (.w (.int a)), some (.w (.int b))] st = .ok (.nx [some (.w (.int a)), some (.w (.int b))]) st := by
    unfold s_common_1 par_
    rw [e4]
    rfl
  exact run_rt (seq_ok e1 (seq_ok (common_loop b a) rfl))
theorem together_ok {a b : Nat} (ha : 0 < a) (hb : 0 < b) (ha2 : a ≤ 1000) (hb2 : b ≤ 1000) : g_together [.int a, .int b] st = .ok (.int (Nat.lcm a b : Nat)) st := by
  have hg : 0 < Nat.gcd a b := Nat.gcd_pos_of_pos_left b ha
  have hg2 : Nat.gcd a b ≤ a := Nat.gcd_le_left b ha
  have e1 : divW (.int a) (.int (Nat.gcd a b : Nat)) st = .ok (.int ((a / Nat.gcd a b : Nat) : Int)) st := by
    unfold divW
    simp only []
    rw [if_pos ⟨by omega, by omega⟩, Int.fdiv_eq_ediv_of_nonneg _ (by omega)]
    rw [← Int.natCast_ediv]
  have e2 : mulW (.int ((a / Nat.gcd a b : Nat) : Int)) (.int b) st = .ok (.int (Nat.lcm a b : Nat)) st := by
    have hs : small (b : Int) = true := by
      unfold small
      rw [decide_eq_true_eq]; omega
    have e : (((a / Nat.gcd a b : Nat) : Int) * (b : Int)) = ((Nat.lcm a b : Nat) : Int) := by
      rw [← Int.natCast_mul, Nat.div_mul_right_comm (Nat.gcd_dvd_left a b)]
      rfl
    unfold mulW
    simp only [hs, Bool.or_true, if_true]
    rw [e]
  have e3 : fb_together [some (.w (.int a)), some (.w (.int b))] st = .ok (.rt (.int (Nat.lcm a b : Nat))) st := by
    have c0 : call_ g_common (cons_ (var_ 0) (cons_ (var_ 1) (nil_))) [some (.w (.int a)), some (.w (.int b))] st = .ok (.int (Nat.gcd a b : Nat)) st := call_ok (ws := [.int a, .int b]) (st1 := st) rfl (common_ok a b)
    have c1 : bin divW (var_ 0) (call_ g_common (cons_ (var_ 0) (cons_ (var_ 1) (nil_)))) [some (.w (.int a)), some (.w (.int b))] st = .ok (.int ((a / Nat.gcd a b : Nat) : Int)) st := bin_ok (x := .int a) (st1 := st) rfl c0 e1
    have c2 : bin mulW (bin divW (var_ 0) (call_ g_common (cons_ (var_ 0) (cons_ (var_ 1) (nil_))))) (var_ 1) [some (.w (.int a)), some (.w (.int b))] st = .ok (.int (Nat.lcm a b : Nat)) st := bin_ok c1 (y := .int b) (st2 := st) rfl e2
    unfold fb_together s_together_1
    exact ret_ok c2
  exact run_rt e3
/-- the round of some rules -/
def wh (rs : List (Int × Int)) : Nat := rs.foldl (fun w p => Nat.lcm w p.1.toNat) 1
theorem wh_snoc (rs : List (Int × Int)) (p : Int × Int) : wh (rs ++ [p]) = Nat.lcm (wh rs) p.1.toNat := by unfold wh; rw [List.foldl_append]; rfl
theorem dvd420 {n : Nat} (h1 : 1 ≤ n) (h2 : n ≤ 7) : n ∣ 420 := by
  have : n = 1 ∨ n = 2 ∨ n = 3 ∨ n = 4 ∨ n = 5 ∨ n = 6 ∨ n = 7 := by omega
  rcases this with rfl | rfl | rfl | rfl | rfl | rfl | rfl <;> decide
theorem wh_fold : ∀ (rs : List (Int × Int)) (w : Nat), w ∣ 420 → 0 < w → (∀ p ∈ rs, ROk p) → (rs.foldl (fun w p => Nat.lcm w p.1.toNat) w) ∣ 420 ∧ 0 < rs.foldl (fun w p => Nat.lcm w p.1.toNat) w ∧ w ∣ rs.foldl (fun w p => Nat.lcm w p.1.toNat) w ∧ ∀ p ∈ rs, p.1.toNat ∣ rs.foldl (fun w p => Nat.lcm w p.1.toNat) w
  | [], w, h1, h2, _ => ⟨h1, h2, Nat.dvd_refl _, fun _ h => nomatch h⟩
  | p :: rs, w, h1, h2, hr => by
    have hp := hr p List.mem_cons_self
    have n1 := hp.n1
    have n2 := hp.n2
    have hd := dvd420 (n := p.1.toNat) (by omega) (by omega)
    obtain ⟨a, b, c, d⟩ := wh_fold rs (Nat.lcm w p.1.toNat) (Nat.lcm_dvd h1 hd) (Nat.lcm_pos h2 (by omega)) fun q hq => hr q (List.mem_cons_of_mem _ hq)
    rw [List.foldl_cons]
    refine ⟨a, b, Nat.dvd_trans (Nat.dvd_lcm_left _ _) c, fun q hq => ?_⟩
    rcases List.mem_cons.mp hq with rfl | hq
    · exact Nat.dvd_trans (Nat.dvd_lcm_right _ _) c
    · exact d q hq
theorem wh_ok (h : ∀ p ∈ rs, ROk p) : wh rs ∣ 420 ∧ 0 < wh rs ∧ ∀ p ∈ rs, p.1.toNat ∣ wh rs := by
  obtain ⟨a, b, _, d⟩ := wh_fold rs 1 (by decide) (by decide) h
  exact ⟨a, b, d⟩
theorem lp_period {w : Nat} (h : ∀ p ∈ rs, ROk p) (hw : ∀ p ∈ rs, p.1.toNat ∣ w) (y k : Int) : lp rs (y + w * k) = lp rs y := by
  have : ∀ (rs : List (Int × Int)) (i : Int), (∀ p ∈ rs, ROk p) → (∀ p ∈ rs, p.1.toNat ∣ w) → rs.foldl (fun f p => if (y + w * k).fmod p.1 = 0 then p.2 else f) i = rs.foldl (fun f p => if y.fmod p.1 = 0 then p.2 else f) i := by
    intro rs
    induction rs with
    | nil => intros; rfl
    | cons p rs ih =>
      intro i h hw
      rw [List.foldl_cons, List.foldl_cons, ih _ (fun q hq => h q (List.mem_cons_of_mem _ hq)) fun q hq => hw q (List.mem_cons_of_mem _ hq)]
      have n1 := (h p List.mem_cons_self).n1
      obtain ⟨c, hc⟩ := hw p List.mem_cons_self
      have e : (y + w * k).fmod p.1 = y.fmod p.1 := by
        rw [Int.fmod_eq_emod_of_nonneg _ (by omega), Int.fmod_eq_emod_of_nonneg _ (by omega)]
        have e1 : (w : Int) = p.1 * c := by rw [hc, Int.natCast_mul]; congr 1; omega
        rw [e1, Int.mul_assoc, Int.add_mul_emod_self_left]
      rw [e]
  exact this rs 0 h hw
theorem yt_eq {one other : List (Int × Int)} {w : Int} : yt one 0 w = yt other 0 w ↔ ∀ y, 0 ≤ y → y < w → (lp one y = 1 ↔ lp other y = 1) := by
  unfold yt
  constructor
  · intro h y h1 h2
    have m : y ∈ rgI 0 w := mem_rgI.mpr ⟨h1, h2⟩
    have e : y ∈ (rgI 0 w).filter (fun y => decide (lp one y = 1)) ↔ y ∈ (rgI 0 w).filter fun y => decide (lp other y = 1) := by rw [h]
    simpa [List.mem_filter, m] using e
  · intro h
    refine List.filter_congr fun y hy => ?_
    obtain ⟨h1, h2⟩ := mem_rgI.mp hy
    rw [decide_eq_decide]
    exact h y h1 h2
def alk (one other : List (Int × Int)) : Bool := decide ((rgI 0 420).filter (fun y => !decide (lp one y = lp other y)) = [])
theorem same_alike {one other : List (Int × Int)} {w : Nat} (h1 : ∀ p ∈ one, ROk p) (h2 : ∀ p ∈ other, ROk p) (hw : w ∣ 420) (hp : 0 < w) (d1 : ∀ p ∈ one, p.1.toNat ∣ w) (d2 : ∀ p ∈ other, p.1.toNat ∣ w) :
    decide (yt one 0 w = yt other 0 w) = alk one other := by
  unfold alk
  rw [decide_eq_decide, yt_eq, List.filter_eq_nil_iff]
  constructor
  · intro h y hy
    obtain ⟨a1, a2⟩ := mem_rgI.mp hy
    have e : y = y % (w : Int) + w * (y / w) := (Int.emod_add_mul_ediv y w).symm
    have b1 : 0 ≤ y % (w : Int) := Int.emod_nonneg _ (by omega)
    have b2 : y % (w : Int) < w := Int.emod_lt_of_pos _ (by omega)
    have q := h _ b1 b2
    have e1 : lp one y = lp one (y % (w : Int)) := by conv => lhs; rw [e, lp_period h1 d1]
    have e2 : lp other y = lp other (y % (w : Int)) := by conv => lhs; rw [e, lp_period h2 d2]
    have c1 := lp_bit (y := y % (w : Int)) h1
    have c2 := lp_bit (y := y % (w : Int)) h2
    simp only [Bool.not_eq_true', decide_eq_false_iff_not, Decidable.not_not]
    omega
  · intro h y a1 a2
    have hle : w ≤ 420 := Nat.le_of_dvd (by decide) hw
    have := h y (mem_rgI.mpr ⟨a1, by omega⟩)
    simp only [Bool.not_eq_true', decide_eq_false_iff_not, Decidable.not_not] at this
    rw [this]
theorem alk_comm (one other : List (Int × Int)) : alk one other = alk other one := by
  unfold alk
  have : (fun y => !decide (lp one y = lp other y)) = fun y => !decide (lp other y = lp one y) := by
    funext y
    have : decide (lp one y = lp other y) = decide (lp other y = lp one y) := by rw [decide_eq_decide]; exact eq_comm
    rw [this]
  rw [this]
theorem same_ok {one other : List (Int × Int)} (h1 : ∀ p ∈ one, ROk p) (h2 : ∀ p ∈ other, ROk p) (l1 : one.length ≤ 100) (l2 : other.length ≤ 100) : g_same_rules [kT one, kT other] st = .ok (.bl (alk one other)) st := by
  have h12 : ∀ p ∈ one ++ other, ROk p := fun p hp => (List.mem_append.mp hp).elim (h1 p) (h2 p)
  obtain ⟨env', e2, c, d, he⟩ := forL_enc0 (b := bT 2 (bCons (bN 3) (bCons (bN 4) (bNil)))) (f := s_same_rules_3) (st := st) pr (fun pre env => ∃ c d, env = [some (.w (kT one)), some (.w (kT other)), some (.w (.int (wh pre))), c, d]) (one ++ other) [some (.w (kT one)), some (.w (kT other)), some (.w (.int 1)), none, none] ⟨none, none, rfl⟩ (fun pre p rest env hx ⟨c, d, he⟩ => by
    subst he
    have hp := h12 p (by rw [hx]; simp)
    have n1 := hp.n1
    have n2 := hp.n2
    obtain ⟨w1, w2, _⟩ := wh_ok (rs := pre) fun q hq => h12 q (by rw [hx]; exact List.mem_append_left _ hq)
    have hle : wh pre ≤ 420 := Nat.le_of_dvd (by decide) w1
    have e := together_ok (st := st) (a := wh pre) (b := p.1.toNat) w2 (by omega) (by omega) (by omega)
    rw [show ((p.1.toNat : Nat) : Int) = p.1 by omega] at e
    refine ⟨[some (.w (kT one)), some (.w (kT other)), some (.w (.int (wh pre))), some (.w (.int p.1)), some (.w (.int p.2))], [some (.w (kT one)), some (.w (kT other)), some (.w (.int (wh (pre ++ [p])))), some (.w (.int p.1)), some (.w (.int p.2))], rfl, ?_, _, _, rfl⟩
    rw [wh_snoc]
    exact asg_ok (call_ok (ws := [.int (wh pre), .int p.1]) (st1 := st) rfl e))
  subst he
  obtain ⟨w1, w2, w3⟩ := wh_ok h12
  have hle : wh (one ++ other) ≤ 420 := Nat.le_of_dvd (by decide) w1
  have hi : items_ (bin addW (var_ 0) (var_ 1)) [some (.w (kT one)), some (.w (kT other)), some (.w (.int 1)), none, none] st = .ok ((one ++ other).map pr) st := by
    have ea : bin addW (var_ 0) (var_ 1) [some (.w (kT one)), some (.w (kT other)), some (.w (.int 1)), none, none] st = .ok (kT (one ++ other)) st := by
      refine bin_ok (x := kT one) (y := kT other) (st1 := st) (st2 := st) rfl rfl ?_
      unfold kT
      rw [add_tup (by rw [List.length_map, List.length_map]; omega), List.map_append]
    unfold items_
    rw [ea]
    rfl
  have hs := same_alike (w := wh (one ++ other)) h1 h2 w1 w2 (fun p hp => w3 p (List.mem_append_left _ hp)) fun p hp => w3 p (List.mem_append_right _ hp)
  have e4 : s_same_rules_4 [some (.w (kT one)), some (.w (kT other)), some (.w (.int (wh (one ++ other)))), c, d] st = .ok (.rt (.bl (alk one other))) st := by
    rw [← hs]
    exact ret_ok (bin_ok (x := tI (yt one 0 (wh (one ++ other)))) (y := tI (yt other 0 (wh (one ++ other)))) (st1 := st) (st2 := st) (call_ok (ws := [kT one, .int 0, .int (wh (one ++ other))]) (st1 := st) rfl (years_ok h1 (by omega) (by omega) (by omega) (by omega))) (call_ok (ws := [kT other, .int 0, .int (wh (one ++ other))]) (st1 := st) rfl (years_ok h2 (by omega) (by omega) (by omega) (by omega))) (eq_tI _ _ _))
  exact run_rt (seq_ok (env1 := [some (.w (kT one)), some (.w (kT other)), some (.w (.int 1)), none, none]) (st1 := st) rfl (seq_ok (for_ok hi e2) e4))
end
end Cr.L49
/-! P49d: drawn rules, the law. -/
namespace Cr.L49
open PySem PySem.Spec PyProof.Rows L2
def GF (m : Int) (left : List Int) (rules : List (Int × Int)) (a b c : Option O) : Env := [some (.w (.ref 0)), some (.w (.int m)), some (.w (lI left)), some (.w (kT rules)), a, b, c]
section
variable {st : Store} {m : Int}
theorem rules_turn {left : List Int} {rules : List (Int × Int)} {a b c : Option O} (hL : ∀ x ∈ left, 1 ≤ x ∧ x ≤ 7) (hR : ∀ p ∈ rules, ROk p) (hl : rules.length ≤ 100) (hw : WS st) :
    ∃ left' rules' b' c' st', s_law_rules_4 (GF m left rules a b c) st = .ok (.nx (GF m left' rules' a b' c')) st' ∧ (∀ x ∈ left', 1 ≤ x ∧ x ≤ 7) ∧ (∀ p ∈ rules', ROk p) ∧ rules'.length ≤ rules.length + 1 ∧ WS st' := by
  have t : tst_ (bin neW (var_ 2) (lst_ (nil_))) (GF m left rules a b c) st = .ok (!decide (left = [])) st := tst_ok (bin_ok (x := lI left) (y := lI []) (st1 := st) (st2 := st) rfl rfl (ne_lI _ _ _))
  by_cases he : left = []
  · rw [decide_eq_true he] at t
    exact ⟨left, rules, b, c, st, if_f t rfl, hL, hR, by omega, hw⟩
  · rw [decide_eq_false he] at t
    have hpos : 0 < left.length := List.length_pos_iff.mpr he
    obtain ⟨v, s1, e1, v0, v1, w1⟩ := drw (i := 0) (env := GF m left rules a b c) (fm := un lenW (var_ 2)) (m := (left.length : Int)) hw rfl (un_ok (x := lI left) (st1 := st) rfl (len_lI _ _)) (by omega)
    have hlt : v.toNat < left.length := by omega
    obtain ⟨n, hn⟩ : ∃ n, left[v.toNat]? = some n := ⟨_, List.getElem?_eq_getElem hlt⟩
    have hmem : n ∈ left := List.mem_of_getElem? hn
    have e5 : s_law_rules_5 (GF m left rules a b c) st = .ok (.nx (GF m left rules a (some (.w (.int n))) c)) s1 := by
      refine asg_ok (bin_ok (x := lI left) (y := .int v) (st1 := st) (st2 := s1) rfl e1 (ix_lst ?_ s1))
      have h1 : (left.map W.int)[v.toNat]? = some (.int n) := by rw [List.getElem?_map, hn]; rfl
      have := atI_ok h1
      rwa [show ((v.toNat : Nat) : Int) = v by omega] at this
    have e6 : s_law_rules_6 (GF m left rules a (some (.w (.int n))) c) s1 = .ok (.nx (GF m (left.filter fun x => !decide (x = n)) rules a (some (.w (.int n))) c)) s1 := by
      have hc := comp_of (fi := looks_ (var_ 2)) (vs := [6]) (b := bN 6) (ft := tst_ (bin neW (var_ 6) (var_ 5))) (fe := var_ 6) (env := GF m left rules a (some (.w (.int n))) c) (st := s1) left W.int (fun x => !decide (x = n)) W.int rfl fun x hx =>
        ⟨GF m left rules a (some (.w (.int n))) (some (.w (.int x))), rfl, tst_ok (bin_ok (x := .int x) (y := .int n) (st1 := s1) (st2 := s1) rfl rfl (ne_int _ _ _)), fun _ => rfl⟩
      exact asg_ok (frzL_ok hc)
    obtain ⟨u, s2, e2, u0, u1, w2⟩ := drw (i := 0) (env := GF m (left.filter fun x => !decide (x = n)) rules a (some (.w (.int n))) c) (fm := cst_ (.int 2)) (m := 2) w1 rfl rfl (by omega)
    have e7 : s_law_rules_7 (GF m (left.filter fun x => !decide (x = n)) rules a (some (.w (.int n))) c) s1 = .ok (.nx (GF m (left.filter fun x => !decide (x = n)) (rules ++ [(n, u)]) a (some (.w (.int n))) c)) s2 := by
      have d1 : tup_ (cons_ (tup_ (cons_ (var_ 5) (cons_ (call_ g_law_next (cons_ (var_ 0) (cons_ (cst_ (.int 2)) (nil_)))) (nil_)))) (nil_)) (GF m (left.filter fun x => !decide (x = n)) rules a (some (.w (.int n))) c) s1 = .ok (.tup [pr (n, u)]) s2 :=
        tup_ok (cons_ok (tup_ok (cons_ok (x := .int n) (st1 := s1) rfl (cons_ok e2 rfl)) (by show 2 ≤ 16777216; omega)) rfl) (by show 1 ≤ 16777216; omega)
      have d2 := add_tup (xs := rules.map pr) (ys := [pr (n, u)]) (by rw [List.length_map]; show rules.length + 1 ≤ 1000000; omega) s2
      have d3 : rules.map pr ++ [pr (n, u)] = (rules ++ [(n, u)]).map pr := by rw [List.map_append]; rfl
      rw [d3] at d2
      exact asg_ok (bin_ok (x := kT rules) (y := .tup [pr (n, u)]) (st1 := s1) (st2 := s2) rfl d1 d2)
    refine ⟨_, _, _, _, s2, if_t t (seq_ok e5 (seq_ok e6 e7)), fun x hx => hL x (List.mem_filter.mp hx).1, fun p hp => ?_, by rw [List.length_append, List.length_singleton]; exact Nat.le_refl _, w2⟩
    rcases List.mem_append.mp hp with hp | hp
    · exact hR p hp
    · rw [List.mem_singleton.mp hp]
      have := hL n hmem
      exact ⟨this.1, this.2, by show u = 0 ∨ u = 1; omega⟩
theorem rules_ok (h1 : 1 ≤ m) (h6 : m ≤ 6) (hw : WS st) : ∃ rs st', g_law_rules [.ref 0, .int m] st = .ok (kT rs) st' ∧ (∀ p ∈ rs, ROk p) ∧ rs.length ≤ 3 ∧ WS st' := by
  have e1 : s_law_rules_1 [some (.w (.ref 0)), some (.w (.int m)), none, none, none, none, none] st = .ok (.nx [some (.w (.ref 0)), some (.w (.int m)), some (.w (lI (rgI 1 (m + 1)))), none, none, none, none]) st := by
    refine asg_ok ?_
    have hz : rgOk 1 (m + 1) = true := rg_ok (by omega) (by omega) (by omega) (by omega)
    unfold lrg2_
    show (if rgOk 1 (m + 1) = true then R.ok (W.lst (rgW 1 (m + 1 - 1).toNat)) st else R.no) = _
    rw [if_pos hz, rgW_rgI]
    rfl
  obtain ⟨v, s1, e3, v0, v1, w1⟩ := drw (i := 0) (env := GF m (rgI 1 (m + 1)) [] none none none) (fm := cst_ (.int 4)) (m := 4) hw rfl rfl (by omega)
  obtain ⟨env', st', e4, left, rules, a, b, c, he, hL, hR, hl, hw'⟩ := forL_all (b := bN 4) (f := s_law_rules_4) (fun i env s => ∃ left rules a b c, env = GF m left rules a b c ∧ (∀ x ∈ left, 1 ≤ x ∧ x ≤ 7) ∧ (∀ p ∈ rules, ROk p) ∧ rules.length ≤ i ∧ WS s) ((rgI 0 v).map .int) (GF m (rgI 1 (m + 1)) [] none none none) s1
    ⟨_, [], none, none, none, rfl, fun x hx => by have := mem_rgI.mp hx; omega, fun _ h => (nomatch h), Nat.le_refl _, w1⟩ (fun i w hi env s ⟨left, rules, a, b, c, he, hL, hR, hl, hw⟩ => by
      subst he
      have hlt := (List.getElem?_eq_some_iff.mp hi).1
      rw [List.length_map, rgI_length] at hlt
      obtain ⟨left', rules', b', c', s', e, q1, q2, q3, q4⟩ := rules_turn (m := m) (left := left) (rules := rules) (a := some (.w w)) (b := b) (c := c) hL hR (by omega) hw
      exact ⟨_, _, s', rfl, e, left', rules', _, b', c', rfl, q1, q2, by omega, q4⟩)
  subst he
  rw [List.length_map, rgI_length] at hl
  have hi : rng1_ (cons_ (call_ g_law_next (cons_ (var_ 0) (cons_ (cst_ (.int 4)) (nil_)))) (nil_)) (GF m (rgI 1 (m + 1)) [] none none none) st = .ok ((rgI 0 v).map .int) s1 := rng1_I (n := v) (cons_ok e3 rfl) (rg_ok (by omega) (by omega) (by omega) (by omega))
  refine ⟨rules, st', run_rt (seq_ok e1 (seq_ok (env1 := GF m (rgI 1 (m + 1)) [] none none none) (st1 := st) rfl (seq_ok (for_ok hi e4) rfl))), hR, by omega, hw'⟩
end
/-! ### the law -/
def LE (ns : List Int) (a b c d e f g h i j k : Option O) : Env := [some (.w (.scr ns)), some (.w (.ref 0)), a, b, c, d, e, f, g, h, i, j, k]
section
variable {ns : List Int} {a b c d e f g h i j k : Option O} {st : Store}
theorem l3 (hw : WS st) : ∃ t st', s_law_3 (LE ns a b c d e f g h i j k) st = .ok (.nx (LE ns a (some (.w (.int t))) c d e f g h i j k)) st' ∧ 1 ≤ t ∧ t ≤ 5 ∧ WS st' := by
  obtain ⟨v, s1, e1, v0, v1, w1⟩ := drw (i := 1) (env := LE ns a b c d e f g h i j k) (fm := cst_ (.int 5)) (m := 5) hw rfl rfl (by omega)
  exact ⟨1 + v, s1, asg_ok (bin_ok (x := .int 1) (st1 := st) rfl e1 rfl), by omega, by omega, w1⟩
theorem l4 (hw : WS st) : ∃ t st', s_law_4 (LE ns a b c d e f g h i j k) st = .ok (.nx (LE ns a b (some (.w (.int t))) d e f g h i j k)) st' ∧ 1 ≤ t ∧ t ≤ 8 ∧ WS st' := by
  obtain ⟨v, s1, e1, v0, v1, w1⟩ := drw (i := 1) (env := LE ns a b c d e f g h i j k) (fm := cst_ (.int 8)) (m := 8) hw rfl rfl (by omega)
  exact ⟨1 + v, s1, asg_ok (bin_ok (x := .int 1) (st1 := st) rfl e1 rfl), by omega, by omega, w1⟩
theorem rules_call {env : Env} (hv : ∀ s, var_ 1 env s = .ok (.ref 0) s) (hw : WS st) : ∃ rs st', call_ g_law_rules (cons_ (var_ 1) (cons_ (bin addW (cst_ (.int 1)) (call_ g_law_next (cons_ (var_ 1) (cons_ (cst_ (.int 6)) (nil_))))) (nil_))) env st = .ok (kT rs) st' ∧ (∀ p ∈ rs, ROk p) ∧ rs.length ≤ 3 ∧ WS st' := by
  obtain ⟨v, s1, e1, v0, v1, w1⟩ := drw (i := 1) (env := env) (fm := cst_ (.int 6)) (m := 6) hw (hv st) rfl (by omega)
  obtain ⟨rs, s2, e2, h1, h2, w2⟩ := rules_ok (m := 1 + v) (by omega) (by omega) w1
  exact ⟨rs, s2, call_ok (cons_ok (hv st) (cons_ok (bin_ok (x := .int 1) (st1 := st) rfl e1 rfl) rfl)) e2, h1, h2, w2⟩
theorem l5 (hw : WS st) : ∃ rs st', s_law_5 (LE ns a b c d e f g h i j k) st = .ok (.nx (LE ns a b c (some (.w (kT rs))) e f g h i j k)) st' ∧ (∀ p ∈ rs, ROk p) ∧ rs.length ≤ 3 ∧ WS st' := by
  obtain ⟨rs, s1, e1, h1, h2, w1⟩ := rules_call (env := LE ns a b c d e f g h i j k) (fun _ => rfl) hw
  exact ⟨rs, s1, asg_ok e1, h1, h2, w1⟩
theorem l15 (hw : WS st) : ∃ rs st', s_law_15 (LE ns a b c d e f g h i j k) st = .ok (.nx (LE ns a b c d e f g (some (.w (kT rs))) i j k)) st' ∧ (∀ p ∈ rs, ROk p) ∧ rs.length ≤ 3 ∧ WS st' := by
  obtain ⟨rs, s1, e1, h1, h2, w1⟩ := rules_call (env := LE ns a b c d e f g h i j k) (fun _ => rfl) hw
  exact ⟨rs, s1, asg_ok e1, h1, h2, w1⟩
structure SOk (signs : List Int) : Prop where
  bit : ∀ x ∈ signs, x = 0 ∨ x = 1
  len : signs.length ≤ 100
theorem l6 {t : Int} {rs : List (Int × Int)} (h1 : 1 ≤ t) (h2 : t ≤ 8) (hr : ∀ p ∈ rs, ROk p) : ∃ signs, s_law_6 (LE ns a b (some (.w (.int t))) (some (.w (kT rs))) e f g h i j k) st = .ok (.nx (LE ns a b (some (.w (.int t))) (some (.w (kT rs))) (some (.w (tI signs))) f g h i j k)) st ∧ SOk signs := by
  have hc := comp_all (fi := rng1_ (cons_ (var_ 4) (nil_))) (vs := [11]) (b := bN 11) (fe := call_ g_law_leap (cons_ (var_ 5) (cons_ (bin addW (var_ 11) (cst_ (.int 1))) (nil_)))) (env := LE ns a b (some (.w (.int t))) (some (.w (kT rs))) e f g h i j k) (st := st) (rgI 0 t) W.int (fun x => .int (lp rs (x + 1))) (rng1_I rfl (rg_ok (by omega) (by omega) (by omega) (by omega))) fun x _ =>
    ⟨LE ns a b (some (.w (.int t))) (some (.w (kT rs))) e f g h i (some (.w (.int x))) k, rfl, call_ok (ws := [kT rs, .int (x + 1)]) (st1 := st) rfl (leap_ok hr)⟩
  have e1 := un_ok (g := tupleW) (r := .ok (.tup ((rgI 0 t).map fun x => .int (lp rs (x + 1)))) st) (frzL_ok hc) rfl
  have e2 : W.tup ((rgI 0 t).map fun x => .int (lp rs (x + 1))) = tI ((rgI 0 t).map fun x => lp rs (x + 1)) := by
    unfold tI
    rw [List.map_map]
    rfl
  rw [e2] at e1
  refine ⟨(rgI 0 t).map fun x => lp rs (x + 1), asg_ok e1, fun x hx => ?_, by rw [List.length_map, rgI_length]; omega⟩
  obtain ⟨y, _, rfl⟩ := List.mem_map.mp hx
  exact lp_bit hr
theorem l7 {t : Int} {signs : List Int} (h1 : 1 ≤ t) (h2 : t ≤ 8) (hs : SOk signs) (hw : WS st) : ∃ signs' j' st', s_law_7 (LE ns a b (some (.w (.int t))) d (some (.w (tI signs))) f g h i j k) st = .ok (.nx (LE ns a b (some (.w (.int t))) d (some (.w (tI signs'))) f g h i j' k)) st' ∧ SOk signs' ∧ WS st' := by
  obtain ⟨v, s1, e1, v0, v1, w1⟩ := drw (i := 1) (env := LE ns a b (some (.w (.int t))) d (some (.w (tI signs))) f g h i j k) (fm := cst_ (.int 3)) (m := 3) hw rfl rfl (by omega)
  have tt : tst_ (bin eqW (call_ g_law_next (cons_ (var_ 1) (cons_ (cst_ (.int 3)) (nil_)))) (cst_ (.int 0))) (LE ns a b (some (.w (.int t))) d (some (.w (tI signs))) f g h i j k) st = .ok (decide (v = 0)) s1 := tst_ok (bin_ok e1 (y := .int 0) (st2 := s1) rfl (eq_int _ _ _))
  by_cases hv : v = 0
  · rw [decide_eq_true hv] at tt
    obtain ⟨ys, s2, e2, q1, q2, q3⟩ := compL_full (vs := [11]) (b := bN 11) (fe := call_ g_law_next (cons_ (var_ 1) (cons_ (cst_ (.int 2)) (nil_)))) (env := LE ns a b (some (.w (.int t))) d (some (.w (tI signs))) f g h i j k) WS (fun y => ∃ x : Int, y = .int x ∧ (x = 0 ∨ x = 1)) ((rgI 0 t).map .int) s1 w1 fun w _ s hs => by
      obtain ⟨u, s3, e3, u0, u1, w3⟩ := drw (i := 1) (env := LE ns a b (some (.w (.int t))) d (some (.w (tI signs))) f g h i (some (.w w)) k) (fm := cst_ (.int 2)) (m := 2) hs rfl rfl (by omega)
      exact ⟨_, rfl, .int u, s3, e3, w3, u, rfl, by omega⟩
    obtain ⟨xs, rfl, hx⟩ := encs W.int (fun x : Int => x = 0 ∨ x = 1) ys q3
    rw [List.length_map, List.length_map, rgI_length] at q2
    refine ⟨xs, j, s2, if_t tt ?_, ⟨hx, by omega⟩, q1⟩
    exact asg_ok (un_ok (frzL_ok (comp_ok (st1 := s1) (rng1_I (n := t) rfl (rg_ok (by omega) (by omega) (by omega) (by omega))) e2)) rfl)
  · rw [decide_eq_false hv] at tt
    exact ⟨signs, j, s1, if_f tt rfl, hs, w1⟩
theorem l9 {m : Int} {signs : List Int} (h1 : 1 ≤ m) (h5 : m ≤ 5) (hs : SOk signs) : s_law_9 (LE ns a (some (.w (.int m))) c d (some (.w (tI signs))) f g h i j k) st = .ok (.nx (LE ns a (some (.w (.int m))) c d (some (.w (tI signs))) f g h i j k)) st := by
  have c1 : call_ g_leap_rules_for (cons_ (var_ 6) (cons_ (var_ 3) (nil_))) (LE ns a (some (.w (.int m))) c d (some (.w (tI signs))) f g h i j k) st = .ok (found signs m) st := call_ok (ws := [tI signs, .int m]) (st1 := st) rfl (for_rules_ok hs.bit hs.len (by omega) h5)
  have c2 : call_ g_law_found (cons_ (var_ 6) (cons_ (var_ 3) (nil_))) (LE ns a (some (.w (.int m))) c d (some (.w (tI signs))) f g h i j k) st = .ok (found signs m) st := call_ok (ws := [tI signs, .int m]) (st1 := st) rfl (law_found_ok hs.len (by omega) h5)
  exact if_f (not_ok (b := true) (same_call c1 c2 (found_fine h5))) rfl
theorem l11 (hw : WS st) : ∃ t st', s_law_11 (LE ns a b c d e f g h i j k) st = .ok (.nx (LE ns a b c d e (some (.w (.int t))) g h i j k)) st' ∧ -40 ≤ t ∧ t ≤ 60 ∧ WS st' := by
  obtain ⟨v, s1, e1, v0, v1, w1⟩ := drw (i := 1) (env := LE ns a b c d e f g h i j k) (fm := cst_ (.int 60)) (m := 60) hw rfl rfl (by omega)
  exact ⟨v - 40, s1, asg_ok (bin_ok e1 (y := .int 40) (st2 := s1) rfl rfl), by omega, by omega, w1⟩
theorem l12 {t : Int} (hw : WS st) : ∃ u st', s_law_12 (LE ns a b c d e (some (.w (.int t))) g h i j k) st = .ok (.nx (LE ns a b c d e (some (.w (.int t))) (some (.w (.int u))) h i j k)) st' ∧ t - 3 ≤ u ∧ u ≤ t + 40 ∧ WS st' := by
  obtain ⟨v, s1, e1, v0, v1, w1⟩ := drw (i := 1) (env := LE ns a b c d e (some (.w (.int t))) g h i j k) (fm := cst_ (.int 40)) (m := 40) hw rfl rfl (by omega)
  exact ⟨t + v - 3, s1, asg_ok (bin_ok (bin_ok (x := .int t) (st1 := st) rfl e1 rfl) (y := .int 3) (st2 := s1) rfl rfl), by omega, by omega, w1⟩
theorem l13 {t u : Int} {rs : List (Int × Int)} (h1 : -40 ≤ t) (h2 : t ≤ 60) (h3 : t - 3 ≤ u) (h4 : u ≤ t + 40) (hr : ∀ p ∈ rs, ROk p) : s_law_13 (LE ns a b c (some (.w (kT rs))) e (some (.w (.int t))) (some (.w (.int u))) h i j k) st = .ok (.nx (LE ns a b c (some (.w (kT rs))) e (some (.w (.int t))) (some (.w (.int u))) h i j k)) st := by
  have c1 : call_ g_years_told (cons_ (var_ 5) (cons_ (var_ 7) (cons_ (var_ 8) (nil_)))) (LE ns a b c (some (.w (kT rs))) e (some (.w (.int t))) (some (.w (.int u))) h i j k) st = .ok (tI (yt rs t u)) st := call_ok (ws := [kT rs, .int t, .int u]) (st1 := st) rfl (years_ok hr (by omega) (by omega) (by omega) (by omega))
  have hc := comp_of (fi := rng2_ (cons_ (var_ 7) (cons_ (var_ 8) (nil_)))) (vs := [12]) (b := bN 12) (ft := tst_ (bin eqW (call_ g_law_leap (cons_ (var_ 5) (cons_ (var_ 12) (nil_)))) (cst_ (.int 1)))) (fe := var_ 12) (env := LE ns a b c (some (.w (kT rs))) e (some (.w (.int t))) (some (.w (.int u))) h i j k) (st := st) (rgI t u) W.int (fun y => decide (lp rs y = 1)) W.int (rng2_I rfl (rg_ok (by omega) (by omega) (by omega) (by omega))) fun y _ =>
    ⟨LE ns a b c (some (.w (kT rs))) e (some (.w (.int t))) (some (.w (.int u))) h i j (some (.w (.int y))), rfl, tst_ok (bin_ok (x := .int (lp rs y)) (y := .int 1) (st1 := st) (st2 := st) (call_ok (ws := [kT rs, .int y]) (st1 := st) rfl (leap_ok hr)) rfl (eq_int _ _ _)), fun _ => rfl⟩
  have c2 := un_ok (g := tupleW) (r := .ok (tI (yt rs t u)) st) (frzL_ok hc) rfl
  have hf : Fine (tI (yt rs t u)) := by
    refine fine_tup (fun n hn => ?_) ?_
    · have := mem_rgI.mp (List.mem_filter.mp hn).1
      have e : (10 : Nat) ^ 12 = 1000000000000 := by decide
      rw [e]; omega
    · have h5 : (yt rs t u).length ≤ (rgI t u).length := List.length_filter_le ..
      rw [rgI_length] at h5
      omega
  exact if_f (not_ok (b := true) (same_call c1 c2 hf)) rfl
theorem r7 {u : Int} (h0 : 0 ≤ u) (h1 : u < 2) : ROk (7, u) := ⟨by show (1 : Int) ≤ 7; omega, by show (7 : Int) ≤ 7; omega, by show u = 0 ∨ u = 1; omega⟩
theorem l16 {rs os : List (Int × Int)} (hr : ∀ p ∈ rs, ROk p) (ho : ∀ p ∈ os, ROk p) (lr : rs.length ≤ 3) (lo : os.length ≤ 3) (hw : WS st) : ∃ qs st', s_law_16 (LE ns a b c (some (.w (kT rs))) e f g (some (.w (kT os))) i j k) st = .ok (.nx (LE ns a b c (some (.w (kT rs))) e f g (some (.w (kT qs))) i j k)) st' ∧ (∀ p ∈ qs, ROk p) ∧ qs.length ≤ 10 ∧ WS st' := by
  obtain ⟨u, s1, e1, u0, u1, w1⟩ := drw (i := 1) (env := LE ns a b c (some (.w (kT rs))) e f g (some (.w (kT os))) i j k) (fm := cst_ (.int 2)) (m := 2) hw rfl rfl (by omega)
  obtain ⟨v, s2, e2, v0, v1, w2⟩ := drw (i := 1) (env := LE ns a b c (some (.w (kT rs))) e f g (some (.w (kT os))) i j k) (fm := cst_ (.int 6)) (m := 6) w1 rfl rfl (by omega)
  have f1 : bin addW (var_ 5) (tup_ (cons_ (tup_ (cons_ (cst_ (.int 7)) (cons_ (call_ g_law_next (cons_ (var_ 1) (cons_ (cst_ (.int 2)) (nil_)))) (nil_)))) (nil_))) (LE ns a b c (some (.w (kT rs))) e f g (some (.w (kT os))) i j k) st = .ok (kT (rs ++ [(7, u)])) s1 := by
    have d1 : tup_ (cons_ (tup_ (cons_ (cst_ (.int 7)) (cons_ (call_ g_law_next (cons_ (var_ 1) (cons_ (cst_ (.int 2)) (nil_)))) (nil_)))) (nil_)) (LE ns a b c (some (.w (kT rs))) e f g (some (.w (kT os))) i j k) st = .ok (.tup [pr (7, u)]) s1 :=
      tup_ok (cons_ok (tup_ok (cons_ok (x := .int 7) (st1 := st) rfl (cons_ok e1 rfl)) (by show 2 ≤ 16777216; omega)) rfl) (by show 1 ≤ 16777216; omega)
    have d2 := add_tup (xs := rs.map pr) (ys := [pr (7, u)]) (by rw [List.length_map]; show rs.length + 1 ≤ 1000000; omega) s1
    have d3 : rs.map pr ++ [pr (7, u)] = (rs ++ [(7, u)]).map pr := by rw [List.map_append]; rfl
    rw [d3] at d2
    exact bin_ok (x := kT rs) (y := .tup [pr (7, u)]) (st1 := st) (st2 := s1) rfl d1 d2
  have f2 : un revW (var_ 5) (LE ns a b c (some (.w (kT rs))) e f g (some (.w (kT os))) i j k) s1 = .ok (kT rs.reverse) s1 := by
    refine un_ok (x := kT rs) (st1 := s1) rfl ?_
    unfold revW kT
    simp only []
    rw [List.map_reverse]
  have f3 : bin addW (tup_ (cons_ (tup_ (cons_ (cst_ (.int 7)) (cons_ (cst_ (.int 0)) (nil_)))) (nil_))) (var_ 5) (LE ns a b c (some (.w (kT rs))) e f g (some (.w (kT os))) i j k) s1 = .ok (kT ((7, 0) :: rs)) s1 := by
    have d2 := add_tup (xs := [pr (7, 0)]) (ys := rs.map pr) (by rw [List.length_map]; show 1 + rs.length ≤ 1000000; omega) s1
    exact bin_ok (x := .tup [pr (7, 0)]) (y := kT rs) (st1 := s1) (st2 := s1) rfl rfl d2
  have f4 : sl_ (var_ 5) (part (cst_ (.int 1))) (noPart) (LE ns a b c (some (.w (kT rs))) e f g (some (.w (kT os))) i j k) s1 = .ok (kT (rs.drop 1)) s1 := by
    show R.ok (W.tup (cutW (rs.map pr) (some 1) none)) s1 = _
    have : cutW (rs.map pr) (some 1) none = (rs.drop 1).map pr := by
      unfold cutW
      have e1 : HT.sIx (rs.map pr).length (rs.map pr).length none = (rs.map pr).length := rfl
      have e2 : HT.sIx (rs.map pr).length 0 (some 1) = min 1 rs.length := by
        rw [List.length_map]
        unfold HT.sIx
        simp only []
        split <;> omega
      rw [e1, e2]
      have hl : ∀ (xs : List (Int × Int)), ((xs.map pr).drop (min 1 xs.length)).take ((xs.map pr).length - min 1 xs.length) = (xs.drop 1).map pr := fun xs => by
        cases xs with
        | nil => rfl
        | cons x xs =>
          have : min 1 (x :: xs).length = 1 := by rw [List.length_cons]; omega
          rw [this, List.map_cons, List.drop_one, List.tail_cons, List.length_cons, Nat.add_sub_cancel, List.take_length, List.drop_one, List.tail_cons]
      exact hl rs
    rw [this]
    rfl
  have el : lst_ (cons_ (var_ 9) (cons_ (var_ 5) (cons_ (bin addW (var_ 5) (tup_ (cons_ (tup_ (cons_ (cst_ (.int 7)) (cons_ (call_ g_law_next (cons_ (var_ 1) (cons_ (cst_ (.int 2)) (nil_)))) (nil_)))) (nil_)))) (cons_ (un revW (var_ 5)) (cons_ (bin addW (tup_ (cons_ (tup_ (cons_ (cst_ (.int 7)) (cons_ (cst_ (.int 0)) (nil_)))) (nil_))) (var_ 5)) (cons_ (sl_ (var_ 5) (part (cst_ (.int 1))) (noPart)) (nil_))))))) (LE ns a b c (some (.w (kT rs))) e f g (some (.w (kT os))) i j k) st =
      .ok (.lst [kT os, kT rs, kT (rs ++ [(7, u)]), kT rs.reverse, kT ((7, 0) :: rs), kT (rs.drop 1)]) s1 :=
    lst_ok (cons_ok (x := kT os) (st1 := st) rfl (cons_ok (x := kT rs) (st1 := st) rfl (cons_ok f1 (cons_ok f2 (cons_ok f3 (cons_ok f4 rfl)))))) (by show 6 ≤ 16777216; omega)
  have pick : ∀ qs : List (Int × Int), ixW (.lst [kT os, kT rs, kT (rs ++ [(7, u)]), kT rs.reverse, kT ((7, 0) :: rs), kT (rs.drop 1)]) (.int v) s2 = .ok (kT qs) s2 → (∀ p ∈ qs, ROk p) → qs.length ≤ 10 → ∃ qs st', s_law_16 (LE ns a b c (some (.w (kT rs))) e f g (some (.w (kT os))) i j k) st = .ok (.nx (LE ns a b c (some (.w (kT rs))) e f g (some (.w (kT qs))) i j k)) st' ∧ (∀ p ∈ qs, ROk p) ∧ qs.length ≤ 10 ∧ WS st' :=
    fun qs e3 h1 h2 => ⟨qs, s2, asg_ok (bin_ok el e2 e3), h1, h2, w2⟩
  have hv : v = 0 ∨ v = 1 ∨ v = 2 ∨ v = 3 ∨ v = 4 ∨ v = 5 := by omega
  rcases hv with rfl | rfl | rfl | rfl | rfl | rfl
  · exact pick os rfl ho (by omega)
  · exact pick rs rfl hr (by omega)
  · refine pick (rs ++ [(7, u)]) rfl (fun p hp => ?_) (by rw [List.length_append]; show rs.length + 1 ≤ 10; omega)
    rcases List.mem_append.mp hp with hp | hp
    · exact hr p hp
    · rw [List.mem_singleton.mp hp]; exact r7 u0 u1
  · exact pick rs.reverse rfl (fun p hp => hr p (List.mem_reverse.mp hp)) (by rw [List.length_reverse]; omega)
  · refine pick ((7, 0) :: rs) rfl (fun p hp => ?_) (by rw [List.length_cons]; omega)
    rcases List.mem_cons.mp hp with rfl | hp
    · exact r7 (by omega) (by omega)
    · exact hr p hp
  · exact pick (rs.drop 1) rfl (fun p hp => hr p (List.mem_of_mem_drop hp)) (by rw [List.length_drop]; omega)
theorem l17 {rs os : List (Int × Int)} (hr : ∀ p ∈ rs, ROk p) (ho : ∀ p ∈ os, ROk p) : s_law_17 (LE ns a b c (some (.w (kT rs))) e f g (some (.w (kT os))) i j k) st = .ok (.nx (LE ns a b c (some (.w (kT rs))) e f g (some (.w (kT os))) (some (.w (.bl (alk rs os)))) j k)) st := by
  have hc := comp_of (fi := rng1_ (cons_ (cst_ (.int 420)) (nil_))) (vs := [12]) (b := bN 12) (ft := tst_ (bin neW (call_ g_law_leap (cons_ (var_ 5) (cons_ (var_ 12) (nil_)))) (call_ g_law_leap (cons_ (var_ 9) (cons_ (var_ 12) (nil_)))))) (fe := var_ 12) (env := LE ns a b c (some (.w (kT rs))) e f g (some (.w (kT os))) i j k) (st := st) (rgI 0 420) W.int (fun y => !decide (lp rs y = lp os y)) W.int (rng1_I rfl (rg_ok (by omega) (by omega) (by omega) (by omega))) fun y _ =>
    ⟨LE ns a b c (some (.w (kT rs))) e f g (some (.w (kT os))) i j (some (.w (.int y))), rfl, tst_ok (bin_ok (x := .int (lp rs y)) (y := .int (lp os y)) (st1 := st) (st2 := st) (call_ok (ws := [kT rs, .int y]) (st1 := st) rfl (leap_ok hr)) (call_ok (ws := [kT os, .int y]) (st1 := st) rfl (leap_ok ho)) (ne_int _ _ _)), fun _ => rfl⟩
  have c1 := bin_ok (g := eqW) (fb := lst_ (nil_)) (y := lI []) (st2 := st) (frzL_ok hc) rfl (eq_lI ((rgI 0 420).filter fun y => !decide (lp rs y = lp os y)) [] st)
  exact asg_ok c1
theorem l18 {rs os : List (Int × Int)} (hr : ∀ p ∈ rs, ROk p) (ho : ∀ p ∈ os, ROk p) (lr : rs.length ≤ 3) (lo : os.length ≤ 10) : s_law_18 (LE ns a b c (some (.w (kT rs))) e f g (some (.w (kT os))) (some (.w (.bl (alk rs os)))) j k) st = .ok (.nx (LE ns a b c (some (.w (kT rs))) e f g (some (.w (kT os))) (some (.w (.bl (alk rs os)))) j k)) st := by
  have c1 : tst_ (bin neW (call_ g_same_rules (cons_ (var_ 5) (cons_ (var_ 9) (nil_)))) (var_ 10)) (LE ns a b c (some (.w (kT rs))) e f g (some (.w (kT os))) (some (.w (.bl (alk rs os)))) j k) st = .ok (!decide (alk rs os = alk rs os)) st :=
    tst_ok (bin_ok (x := .bl (alk rs os)) (y := .bl (alk rs os)) (st1 := st) (st2 := st) (call_ok (ws := [kT rs, kT os]) (st1 := st) rfl (same_ok hr ho (by omega) (by omega))) rfl (ne_bl _ _ _))
  have c2 : tst_ (bin neW (call_ g_same_rules (cons_ (var_ 9) (cons_ (var_ 5) (nil_)))) (var_ 10)) (LE ns a b c (some (.w (kT rs))) e f g (some (.w (kT os))) (some (.w (.bl (alk rs os)))) j k) st = .ok (!decide (alk rs os = alk rs os)) st :=
    tst_ok (bin_ok (x := .bl (alk rs os)) (y := .bl (alk rs os)) (st1 := st) (st2 := st) (call_ok (ws := [kT os, kT rs]) (st1 := st) rfl (by rw [alk_comm]; exact same_ok ho hr (by omega) (by omega))) rfl (ne_bl _ _ _))
  have e0 : (!decide (alk rs os = alk rs os)) = false := by simp
  rw [e0] at c1 c2
  refine if_f (st1 := st) ?_ rfl
  unfold or_
  rw [c1]
  exact c2
end
theorem law_true (ns : List Int) (hl : ns.length ≤ 63) : ∃ st', g_law [.scr ns] [] = .ok (.bl true) st' := by
  obtain ⟨ds, e0⟩ := draws_spec ns hl 120 (by omega) (by omega) []
  have e1 : s_law_1 [some (.w (.scr ns)), none, none, none, none, none, none, none, none, none, none, none, none] [] = .ok (.nx (LE ns none none none none none none none none none none none)) (stW ds 0) := by
    refine asg_ok ?_
    unfold sd2_
    have : call_ g_law_draws (cons_ (var_ 0) (cons_ (cst_ (.int 120)) (nil_))) [some (.w (.scr ns)), none, none, none, none, none, none, none, none, none, none, none, none] [] = .ok (.lst (ds.map .int)) [] := call_ok (ws := [.scr ns, .int 120]) (st1 := []) rfl e0
    rw [this]
    rfl
  obtain ⟨env', st', e2, a, b, c, d, e, f, g, h, i, j, k, rfl, hw⟩ := forL_all (b := bN 2) (f := seq_ (s_law_3) (seq_ (s_law_4) (seq_ (s_law_5) (seq_ (s_law_6) (seq_ (s_law_7) (seq_ (s_law_9) (seq_ (s_law_11) (seq_ (s_law_12) (seq_ (s_law_13) (seq_ (s_law_15) (seq_ (s_law_16) (seq_ (s_law_17) (s_law_18))))))))))))) (fun _ env st => ∃ a b c d e f g h i j k, env = LE ns a b c d e f g h i j k ∧ WS st) ((rgI 0 2).map .int)
    (LE ns none none none none none none none none none none none) (stW ds 0) ⟨_, _, _, _, _, _, _, _, _, _, _, rfl, ds, 0, rfl, by omega⟩ (fun z w _ env st ⟨a, b, c, d, e, f, g, h, i, j, k, h1, hw⟩ => by
      subst h1
      obtain ⟨m, s3, e3, m1, m2, w3⟩ := l3 (ns := ns) (a := some (.w w)) (b := b) (c := c) (d := d) (e := e) (f := f) (g := g) (h := h) (i := i) (j := j) (k := k) hw
      obtain ⟨t, s4, e4, t1, t2, w4⟩ := l4 (ns := ns) (a := some (.w w)) (b := some (.w (.int m))) (c := c) (d := d) (e := e) (f := f) (g := g) (h := h) (i := i) (j := j) (k := k) w3
      obtain ⟨rs, s5, e5, hr, lr, w5⟩ := l5 (ns := ns) (a := some (.w w)) (b := some (.w (.int m))) (c := some (.w (.int t))) (d := d) (e := e) (f := f) (g := g) (h := h) (i := i) (j := j) (k := k) w4
      obtain ⟨sg, e6, hs⟩ := l6 (ns := ns) (a := some (.w w)) (b := some (.w (.int m))) (e := e) (f := f) (g := g) (h := h) (i := i) (j := j) (k := k) (st := s5) t1 t2 hr
      obtain ⟨sg2, j2, s7, e7, hs2, w7⟩ := l7 (ns := ns) (a := some (.w w)) (b := some (.w (.int m))) (d := some (.w (kT rs))) (f := f) (g := g) (h := h) (i := i) (j := j) (k := k) t1 t2 hs w5
      have e9 := l9 (ns := ns) (a := some (.w w)) (c := some (.w (.int t))) (d := some (.w (kT rs))) (f := f) (g := g) (h := h) (i := i) (j := j2) (k := k) (st := s7) m1 m2 hs2
      obtain ⟨bg, s11, e11, b1, b2, w11⟩ := l11 (ns := ns) (a := some (.w w)) (b := some (.w (.int m))) (c := some (.w (.int t))) (d := some (.w (kT rs))) (e := some (.w (tI sg2))) (f := f) (g := g) (h := h) (i := i) (j := j2) (k := k) w7
      obtain ⟨en, s12, e12, n1, n2, w12⟩ := l12 (ns := ns) (a := some (.w w)) (b := some (.w (.int m))) (c := some (.w (.int t))) (d := some (.w (kT rs))) (e := some (.w (tI sg2))) (t := bg) (g := g) (h := h) (i := i) (j := j2) (k := k) w11
      have e13 := l13 (ns := ns) (a := some (.w w)) (b := some (.w (.int m))) (c := some (.w (.int t))) (e := some (.w (tI sg2))) (h := h) (i := i) (j := j2) (k := k) (st := s12) b1 b2 n1 n2 hr
      obtain ⟨os, s15, e15, ho, lo, w15⟩ := l15 (ns := ns) (a := some (.w w)) (b := some (.w (.int m))) (c := some (.w (.int t))) (d := some (.w (kT rs))) (e := some (.w (tI sg2))) (f := some (.w (.int bg))) (g := some (.w (.int en))) (h := h) (i := i) (j := j2) (k := k) w12
      obtain ⟨qs, s16, e16, hq, lq, w16⟩ := l16 (ns := ns) (a := some (.w w)) (b := some (.w (.int m))) (c := some (.w (.int t))) (e := some (.w (tI sg2))) (f := some (.w (.int bg))) (g := some (.w (.int en))) (i := i) (j := j2) (k := k) hr ho lr lo w15
      have e17 := l17 (ns := ns) (a := some (.w w)) (b := some (.w (.int m))) (c := some (.w (.int t))) (e := some (.w (tI sg2))) (f := some (.w (.int bg))) (g := some (.w (.int en))) (i := i) (j := j2) (k := k) (st := s16) hr hq
      have e18 := l18 (ns := ns) (a := some (.w w)) (b := some (.w (.int m))) (c := some (.w (.int t))) (e := some (.w (tI sg2))) (f := some (.w (.int bg))) (g := some (.w (.int en))) (j := j2) (k := k) (st := s16) hr hq lr lq
      exact ⟨_, _, s16, rfl, seq_ok e3 (seq_ok e4 (seq_ok e5 (seq_ok e6 (seq_ok e7 (seq_ok e9 (seq_ok e11 (seq_ok e12 (seq_ok e13 (seq_ok e15 (seq_ok e16 (seq_ok e17 e18))))))))))), _, _, _, _, _, _, _, _, _, _, _, rfl, w16⟩)
  refine ⟨st', run_rt (seq_ok e1 (seq_ok (for_ok (rng1_I (n := 2) rfl (rg_ok (by omega) (by omega) (by omega) (by omega))) e2) rfl))⟩
end Cr.L49
namespace Cr.L49
open PySem PySem.Spec PyProof.Rows L2 Cr
/-! the walk -/
def topOf (i : Nat) : Stmt := PySem.Challenge.pw_daysworn_k49_leap_rules_found.main.body.getD i (.Pass ⟨0, 0, 0, 0⟩)
structure Txt (mg : Str → Option Value) : Prop where
  b_abs : mg "abs" = none
  b_all : mg "all" = none
  b_int : mg "int" = none
  b_len : mg "len" = none
  b_list : mg "list" = none
  b_range : mg "range" = none
  b_repr : mg "repr" = none
  b_tuple : mg "tuple" = none
section
variable {P : Program} {w : World} {K : PySem.W.Frag} {mg : Str → Option Value} {base : Heap}
abbrev sx_law_draws : Stmt := topOf 13
abbrev nm_law_draws : List Str := ["script", "many", "draws", "mixed", "k", "cell", "rest", "turn"]
theorem sc_law_draws : FnScope ["script", "many", "draws", "mixed", "k", "cell", "rest", "turn"] ["script", "many"] (defScope sx_law_draws) := ⟨rfl, rfl, rfl, by decide +kernel, rfl, by decide +kernel, by decide +kernel⟩
theorem ok_law_draws {f : Addr} {fd : FuncData} (F : Fun K "_law_draws" "_law_draws" sx_law_draws f fd) (T : Txt mg)  : FnG P w K mg base CX0 1 f fd ["script", "many"] (spF K 2 g_law_draws) := by
  refine d_ok F sc_law_draws fun cdv A outer s H E hr hg => ?_
  have nd := sc_law_draws.nd
  exact (ss_cons (s_own (m := true) (i := 2) nd rfl (.inl rfl) (n_lst a_nil))
    (ss_cons (s_asg (m := true) (i := 3) nd rfl (.inl rfl) e_int)
    (ss_cons (s_for (m := true) PassesOwn.never rfl (i_rng1 rfl T.b_range (a_cons (e_b1 call_len b_len rfl T.b_len bt_len (o_e (e_var (i := 0) rfl (.inl rfl)))) a_nil)) (g_n (i := 4) nd rfl (.inl rfl))
    (ss_cons (s_asg (m := true) (i := 5) nd rfl (.inl rfl) (e_b1 call_abs b_abs rfl T.b_abs bt_abs (o_e (e_bt1 call_int1 b_int rfl T.b_int bt_int (o_e (e_ix (hu1 hr) (o_e (e_var (i := 0) rfl (.inl rfl))) (o_e (e_var (i := 4) rfl (.inl rfl)))))))))
    (ss_cons (s_asg (m := true) (i := 3) nd rfl (.inl rfl) (e_mod (e_bt1 call_int1 b_int rfl T.b_int bt_int (o_e (e_add (e_add (e_mul (e_var (i := 3) rfl (.inl rfl)) e_int) (e_mod (e_var (i := 5) rfl (.inl rfl)) e_int)) (e_var (i := 4) rfl (.inl rfl))))) e_int))
    (ss_cons (s_asg (m := true) (i := 6) nd rfl (.inl rfl) e_int)
    (ss_cons (s_if (m := true) (t_cmp op_ge v_ge (o_e (e_var (i := 5) rfl (.inl rfl))) (o_e (e_pow e_int e_int))) (ss_one (s_asg (m := true) (i := 6) nd rfl (.inl rfl) (e_var (i := 5) rfl (.inl rfl))))
    (ss_cons (s_append (m := true) (i := 2) rfl (.inl rfl) (e_mod (e_bt1 call_int1 b_int rfl T.b_int bt_int (o_e (e_var (i := 5) rfl (.inl rfl)))) e_int))
    (ss_one (s_append (m := true) (i := 2) rfl (.inl rfl) (e_mod (e_mod (e_bt1 call_int1 b_int rfl T.b_int bt_int (o_e (e_add (e_mul (e_var (i := 3) rfl (.inl rfl)) e_int) e_int))) e_int) e_int)))))
    (ss_one (s_for (m := true) PassesOwn.never rfl (i_rng1 rfl T.b_range (a_cons e_int a_nil)) (g_n (i := 7) nd rfl (.inl rfl))
    (ss_one (s_if (m := true) (t_cmp op_gt v_gt (o_e (e_var (i := 6) rfl (.inl rfl))) (o_e e_int)) (ss_cons (s_append (m := true) (i := 2) rfl (.inl rfl) (e_mod (e_bt1 call_int1 b_int rfl T.b_int bt_int (o_e (e_var (i := 6) rfl (.inl rfl)))) e_int))
    (ss_one (s_asg (m := true) (i := 6) nd rfl (.inl rfl) (e_div (e_var (i := 6) rfl (.inl rfl)) e_int))))
    ss_nil)))))))))
    (ss_cons (s_for (m := true) PassesOwn.never rfl (i_rng1 rfl T.b_range (a_cons (e_var (i := 1) rfl (.inl rfl)) a_nil)) (g_n (i := 4) nd rfl (.inl rfl))
    (ss_cons (s_asg (m := true) (i := 3) nd rfl (.inl rfl) (e_mod (e_bt1 call_int1 b_int rfl T.b_int bt_int (o_e (e_add (e_add (e_mul (e_var (i := 3) rfl (.inl rfl)) e_int) (e_var (i := 4) rfl (.inl rfl))) e_int))) e_int))
    (ss_one (s_append (m := true) (i := 2) rfl (.inl rfl) (e_mod (e_bt1 call_int1 b_int rfl T.b_int bt_int (o_e (e_var (i := 3) rfl (.inl rfl)))) e_int)))))
    (ss_one (s_ret (m := true) (e_sl (o_var (i := 2) rfl (.inl rfl)) q_none (q_some (e_var (i := 1) rfl (.inl rfl))))))))))
abbrev sx_law_next : Stmt := topOf 14
abbrev nm_law_next : List Str := ["w", "many"]
theorem sc_law_next : FnScope ["w", "many"] ["w", "many"] (defScope sx_law_next) := ⟨rfl, rfl, rfl, by decide +kernel, rfl, by decide +kernel, by decide +kernel⟩
theorem ok_law_next {f : Addr} {fd : FuncData} (F : Fun K "_law_next" "_law_next" sx_law_next f fd) (T : Txt mg)  : FnG P w K mg base CX0 1 f fd ["w", "many"] (spF K 2 g_law_next) := by
  refine d_ok F sc_law_next fun cdv A outer s H E hr hg => ?_
  have nd := sc_law_next.nd
  exact (ss_cons (s_fadd (hu1 hr) (e_var (i := 0) rfl (.inl rfl)) e_int)
    (ss_cons (s_if (m := true) (t_cmp op_gt v_gt (o_e (e_ix (hu1 hr) (o_e (e_var (i := 0) rfl (.inl rfl))) (o_e e_str))) (o_e (e_b1 call_len b_len rfl T.b_len bt_len (o_e (e_ix (hu1 hr) (o_e (e_var (i := 0) rfl (.inl rfl))) (o_e e_str)))))) (ss_one (s_ret (m := true) e_int))
    ss_nil)
    (ss_one (s_ret (m := true) (e_mod (e_bt1 call_int1 b_int rfl T.b_int bt_int (o_e (e_ix (hu1 hr) (o_e (e_ix (hu1 hr) (o_e (e_var (i := 0) rfl (.inl rfl))) (o_e e_str))) (o_e (e_sub (e_ix (hu1 hr) (o_e (e_var (i := 0) rfl (.inl rfl))) (o_e e_str)) e_int))))) (e_var (i := 1) rfl (.inl rfl)))))))
abbrev sx_law_rules : Stmt := topOf 17
abbrev nm_law_rules : List Str := ["w", "most", "left", "rules", "k", "n", "one"]
theorem sc_law_rules : FnScope ["w", "most", "left", "rules", "k", "n", "one"] ["w", "most"] (defScope sx_law_rules) := ⟨rfl, rfl, rfl, by decide +kernel, rfl, by decide +kernel, by decide +kernel⟩
theorem lk_law_rules_0_one : List.lookup ("one" : Str) [((".0" : Str), NameKind.local), (("one" : Str), NameKind.local), (("n" : Str), NameKind.free)] = some NameKind.local := by decide +kernel
theorem ok_law_rules {f : Addr} {fd : FuncData} (F : Fun K "_law_rules" "_law_rules" sx_law_rules f fd) (T : Txt mg) (C_law_next : Callee P w K mg base "_law_next" 1 2 g_law_next) : FnG P w K mg base CX0 2 f fd ["w", "most"] (spF K 2 g_law_rules) := by
  refine d_ok F sc_law_rules fun cdv A outer s H E hr hg => ?_
  have nd := sc_law_rules.nd
  exact (ss_cons (s_asg (m := true) (i := 2) nd rfl (.inl rfl) (e_lstRg2 rfl rfl T.b_list rfl T.b_range e_int (e_add (e_var (i := 1) rfl (.inl rfl)) e_int)))
    (ss_cons (s_asg (m := true) (i := 3) nd rfl (.inl rfl) (e_tup a_nil))
    (ss_cons (s_for (m := false) PassesOwn.never rfl (i_rng1 rfl T.b_range (a_cons (e_callee (m := true) C_law_next hr hg rfl (a_cons (e_var (i := 0) rfl (.inl rfl)) (a_cons e_int a_nil)) (cons_len (cons_len nil_len))) a_nil)) (g_n (i := 4) nd rfl (.inl rfl))
    (ss_one (s_if (m := true) (t_cmp (op_neD (hu64 hr)) v_ne (o_e (e_var (i := 2) rfl (.inl rfl))) (o_e (e_lst a_nil))) (ss_cons (s_asg (m := false) (i := 5) nd rfl (.inr rfl) (e_ix (hu1 hr) (o_e (e_var (i := 2) rfl (.inl rfl))) (o_e (e_callee (m := true) C_law_next hr hg rfl (a_cons (e_var (i := 0) rfl (.inl rfl)) (a_cons (e_b1 call_len b_len rfl T.b_len bt_len (o_e (e_var (i := 2) rfl (.inl rfl)))) a_nil)) (cons_len (cons_len nil_len))))))
    (ss_cons (s_asgC (m := true) (i := 2) (own := [("one", 6)]) rfl nd rfl rfl (sw_true rfl rfl rfl (by decide +kernel)) (i_look (o_e (e_var (i := 2) rfl (.inl rfl)))) (by exact blkOk_by (N := nm_law_rules) (sc := defScope sx_law_rules) (own := [("one", 6)]) (by decide +kernel)) (fun _ _ _ _ _ => (g_n (i := 6) nd rfl (.inl (by exact lk_law_rules_0_one)))) (fun _ _ _ _ _ => (ts_one (t_cmp (op_neD (hu64 hr)) v_ne (o_e (e_var (i := 6) rfl (.inl (by exact lk_law_rules_0_one)))) (o_e (e_var (i := 5) rfl (.inr (.inl (by rfl)))))))) (fun _ _ _ _ _ => (e_var (i := 6) rfl (.inl (by exact lk_law_rules_0_one)))))
    (ss_one (s_asg (m := false) (i := 3) nd rfl (.inl rfl) (e_add (e_var (i := 3) rfl (.inl rfl)) (e_tup (a_cons (e_tup (a_cons (e_var (i := 5) rfl (.inr (.inl rfl))) (a_cons (e_callee (m := true) C_law_next hr hg rfl (a_cons (e_var (i := 0) rfl (.inl rfl)) (a_cons e_int a_nil)) (cons_len (cons_len nil_len))) a_nil))) a_nil)))))))
    ss_nil)))
    (ss_one (s_ret (m := true) (e_var (i := 3) rfl (.inl rfl)))))))
abbrev sx_law_same : Stmt := topOf 15
abbrev nm_law_same : List Str := ["told", "due"]
theorem sc_law_same : FnScope ["told", "due"] ["told", "due"] (defScope sx_law_same) := ⟨rfl, rfl, rfl, by decide +kernel, rfl, by decide +kernel, by decide +kernel⟩
theorem ok_law_same {f : Addr} {fd : FuncData} (F : Fun K "_law_same" "_law_same" sx_law_same f fd) (T : Txt mg)  : FnG P w K mg base CX0 1 f fd ["told", "due"] (spF K 2 g_law_same) := by
  refine d_ok F sc_law_same fun cdv A outer s H E hr hg => ?_
  have nd := sc_law_same.nd
  exact (ss_one (s_ret (m := true) (e_and (e_cmp (op_eqD (hu64 hr)) v_eq (o_e (e_var (i := 0) rfl (.inl rfl))) (o_e (e_var (i := 1) rfl (.inl rfl)))) (e_one (e_reprEq hg (hu65 hr) rfl T.b_repr (o_e (e_var (i := 0) rfl (.inl rfl))) (o_e (e_var (i := 1) rfl (.inl rfl))))))))
abbrev sx_law_leap : Stmt := topOf 16
abbrev nm_law_leap : List Str := ["rules", "year", "found", "n", "sign"]
theorem sc_law_leap : FnScope ["rules", "year", "found", "n", "sign"] ["rules", "year"] (defScope sx_law_leap) := ⟨rfl, rfl, rfl, by decide +kernel, rfl, by decide +kernel, by decide +kernel⟩
theorem ok_law_leap {f : Addr} {fd : FuncData} (F : Fun K "_law_leap" "_law_leap" sx_law_leap f fd) (T : Txt mg)  : FnG P w K mg base CX0 1 f fd ["rules", "year"] (spF K 2 g_law_leap) := by
  refine d_ok F sc_law_leap fun cdv A outer s H E hr hg => ?_
  have nd := sc_law_leap.nd
  exact (ss_cons (s_asg (m := true) (i := 2) nd rfl (.inl rfl) e_int)
    (ss_cons (s_for (m := true) PassesOwn.never rfl (i_val (e_var (i := 0) rfl (.inl rfl))) (g_t rfl (g_cons (g_n (i := 3) nd rfl (.inl rfl)) (g_cons (g_n (i := 4) nd rfl (.inl rfl)) g_nil)))
    (ss_one (s_if (m := true) (t_cmp (op_eqD (hu64 hr)) v_eq (o_e (e_mod (e_var (i := 1) rfl (.inl rfl)) (e_var (i := 3) rfl (.inl rfl)))) (o_e e_int)) (ss_one (s_asg (m := true) (i := 2) nd rfl (.inl rfl) (e_var (i := 4) rfl (.inl rfl))))
    ss_nil)))
    (ss_one (s_ret (m := true) (e_var (i := 2) rfl (.inl rfl))))))
abbrev sx_rows_of_rules : Stmt := topOf 8
abbrev nm_rows_of_rules : List Str := ["many", "most", "rows", "_", "longer", "row", "used", "n"]
theorem sc_rows_of_rules : FnScope ["many", "most", "rows", "_", "longer", "row", "used", "n"] ["many", "most"] (defScope sx_rows_of_rules) := ⟨rfl, rfl, rfl, by decide +kernel, rfl, by decide +kernel, by decide +kernel⟩
theorem lk_rows_of_rules_0_ : List.lookup ("_" : Str) [((".0" : Str), NameKind.local), (("n" : Str), NameKind.local), (("_" : Str), NameKind.local)] = some NameKind.local := by decide +kernel
theorem lk_rows_of_rules_0_n : List.lookup ("n" : Str) [((".0" : Str), NameKind.local), (("n" : Str), NameKind.local), (("_" : Str), NameKind.local)] = some NameKind.local := by decide +kernel
theorem ok_rows_of_rules {f : Addr} {fd : FuncData} (F : Fun K "rows_of_rules" "rows_of_rules" sx_rows_of_rules f fd) (T : Txt mg)  : FnG P w K mg base CX0 1 f fd ["many", "most"] (spF K 2 g_rows_of_rules) := by
  refine d_ok F sc_rows_of_rules fun cdv A outer s H E hr hg => ?_
  have nd := sc_rows_of_rules.nd
  exact (ss_cons (s_asg (m := true) (i := 2) nd rfl (.inl rfl) (e_lst (a_cons (e_tup a_nil) a_nil)))
    (ss_cons (s_for (m := true) PassesOwn.never rfl (i_rng1 rfl T.b_range (a_cons (e_var (i := 0) rfl (.inl rfl)) a_nil)) (g_n (i := 3) nd rfl (.inl rfl))
    (ss_cons (s_own (m := true) (i := 4) nd rfl (.inl rfl) (n_lst a_nil))
    (ss_cons (s_for (m := true) PassesOwn.never rfl (i_val (e_var (i := 2) rfl (.inl rfl))) (g_n (i := 5) nd rfl (.inl rfl))
    (ss_cons (s_asgC (m := true) (i := 6) (own := [("n", 7), ("_", 3)]) rfl nd rfl rfl (sw_true rfl rfl rfl (by decide +kernel)) (i_look (o_e (e_var (i := 5) rfl (.inl rfl)))) (by exact blkOk_by (N := nm_rows_of_rules) (sc := defScope sx_rows_of_rules) (own := [("n", 7), ("_", 3)]) (by decide +kernel)) (fun _ _ _ _ _ => (g_t rfl (g_cons (g_n (i := 7) nd rfl (.inl (by exact lk_rows_of_rules_0_n))) (g_cons (g_n (i := 3) nd rfl (.inl (by exact lk_rows_of_rules_0_))) g_nil)))) (fun _ _ _ _ _ => ts_nil) (fun _ _ _ _ _ => (e_var (i := 7) rfl (.inl (by exact lk_rows_of_rules_0_n)))))
    (ss_one (s_for (m := true) PassesOwn.never rfl (i_rng2 rfl T.b_range (a_cons e_int (a_cons (e_add (e_var (i := 1) rfl (.inl rfl)) e_int) a_nil))) (g_n (i := 7) nd rfl (.inl rfl))
    (ss_one (s_if (m := true) (t_cmp (op_ninAll (hu65 hr)) v_nin (o_e (e_var (i := 7) rfl (.inl rfl))) (o_e (e_var (i := 6) rfl (.inl rfl)))) (ss_one (s_extend (m := true) (i := 4) rfl (.inl rfl) (e_lst (a_cons (e_add (e_var (i := 5) rfl (.inl rfl)) (e_tup (a_cons (e_tup (a_cons (e_var (i := 7) rfl (.inl rfl)) (a_cons e_int a_nil))) a_nil))) (a_cons (e_add (e_var (i := 5) rfl (.inl rfl)) (e_tup (a_cons (e_tup (a_cons (e_var (i := 7) rfl (.inl rfl)) (a_cons e_int a_nil))) a_nil))) a_nil)))))
    ss_nil))))))
    (ss_freeze 4 (ss_one (s_asg (m := true) (i := 2) nd rfl (.inl rfl) (e_var (i := 4) rfl (.inl rfl))))))))
    (ss_one (s_ret (m := true) (e_var (i := 2) rfl (.inl rfl))))))
abbrev sx_is_leap : Stmt := topOf 4
abbrev nm_is_leap : List Str := ["calendar", "year", "signs", "n", "sign"]
theorem sc_is_leap : FnScope ["calendar", "year", "signs", "n", "sign"] ["calendar", "year"] (defScope sx_is_leap) := ⟨rfl, rfl, rfl, by decide +kernel, rfl, by decide +kernel, by decide +kernel⟩
theorem lk_is_leap_0_sign : List.lookup ("sign" : Str) [((".0" : Str), NameKind.local), (("n" : Str), NameKind.local), (("sign" : Str), NameKind.local), (("year" : Str), NameKind.free)] = some NameKind.local := by decide +kernel
theorem lk_is_leap_0_n : List.lookup ("n" : Str) [((".0" : Str), NameKind.local), (("n" : Str), NameKind.local), (("sign" : Str), NameKind.local), (("year" : Str), NameKind.free)] = some NameKind.local := by decide +kernel
theorem ok_is_leap {f : Addr} {fd : FuncData} (F : Fun K "is_leap" "is_leap" sx_is_leap f fd) (T : Txt mg)  : FnG P w K mg base CX0 1 f fd ["calendar", "year"] (spF K 2 g_is_leap) := by
  refine d_ok F sc_is_leap fun cdv A outer s H E hr hg => ?_
  have nd := sc_is_leap.nd
  exact (ss_cons (s_asgC (m := true) (i := 2) (own := [("n", 3), ("sign", 4)]) rfl nd rfl rfl (sw_true rfl rfl rfl (by decide +kernel)) (i_look (o_e (e_ix (hu1 hr) (o_e (e_var (i := 0) rfl (.inl rfl))) (o_e e_int)))) (by exact blkOk_by (N := nm_is_leap) (sc := defScope sx_is_leap) (own := [("n", 3), ("sign", 4)]) (by decide +kernel)) (fun _ _ _ _ _ => (g_t rfl (g_cons (g_n (i := 3) nd rfl (.inl (by exact lk_is_leap_0_n))) (g_cons (g_n (i := 4) nd rfl (.inl (by exact lk_is_leap_0_sign))) g_nil)))) (fun _ _ _ _ _ => (ts_one (t_cmp (op_eqD (hu64 hr)) v_eq (o_e (e_mod (e_var (i := 1) rfl (.inr (.inl (by rfl)))) (e_var (i := 3) rfl (.inl (by exact lk_is_leap_0_n))))) (o_e e_int)))) (fun _ _ _ _ _ => (e_var (i := 4) rfl (.inl (by exact lk_is_leap_0_sign)))))
    (ss_one (s_ret (m := true) (e_and (e_cmp (op_neD (hu64 hr)) v_ne (o_e (e_var (i := 2) rfl (.inl rfl))) (o_e (e_lst a_nil))) (e_one (e_cmp (op_eqD (hu64 hr)) v_eq (o_e (e_ix (hu1 hr) (o_e (e_var (i := 2) rfl (.inl rfl))) (o_e (e_neg e_int)))) (o_e e_int)))))))
abbrev sx_told_by : Stmt := topOf 6
abbrev nm_told_by : List Str := ["rules", "year"]
theorem sc_told_by : FnScope ["rules", "year"] ["rules", "year"] (defScope sx_told_by) := ⟨rfl, rfl, rfl, by decide +kernel, rfl, by decide +kernel, by decide +kernel⟩
theorem ok_told_by {f : Addr} {fd : FuncData} (F : Fun K "told_by" "told_by" sx_told_by f fd) (T : Txt mg) (C_is_leap : Callee P w K mg base "is_leap" 1 2 g_is_leap) : FnG P w K mg base CX0 2 f fd ["rules", "year"] (spF K 2 g_told_by) := by
  refine d_ok F sc_told_by fun cdv A outer s H E hr hg => ?_
  have nd := sc_told_by.nd
  exact (ss_one (s_ret (m := false) (e_callee (m := true) C_is_leap hr hg rfl (a_cons (e_tup (a_cons e_int (a_cons (e_tup (a_cons e_int a_nil)) (a_cons e_int (a_cons (e_var (i := 0) rfl (.inl rfl)) a_nil))))) (a_cons (e_var (i := 1) rfl (.inl rfl)) a_nil)) (cons_len (cons_len nil_len)))))
abbrev sx_fits_signs : Stmt := topOf 7
abbrev nm_fits_signs : List Str := ["rules", "signs", "k"]
theorem sc_fits_signs : FnScope ["rules", "signs", "k"] ["rules", "signs"] (defScope sx_fits_signs) := ⟨rfl, rfl, rfl, by decide +kernel, rfl, by decide +kernel, by decide +kernel⟩
theorem lk_fits_signs_0_k : List.lookup ("k" : Str) [((".0" : Str), NameKind.local), (("k" : Str), NameKind.local), (("int" : Str), NameKind.globalImplicit), (("told_by" : Str), NameKind.globalImplicit), (("rules" : Str), NameKind.free), (("signs" : Str), NameKind.free)] = some NameKind.local := by decide +kernel
theorem lk_fits_signs_0_told_by : List.lookup ("told_by" : Str) [((".0" : Str), NameKind.local), (("k" : Str), NameKind.local), (("int" : Str), NameKind.globalImplicit), (("told_by" : Str), NameKind.globalImplicit), (("rules" : Str), NameKind.free), (("signs" : Str), NameKind.free)] = some NameKind.globalImplicit := by decide +kernel
theorem lk_fits_signs_0_int : List.lookup ("int" : Str) [((".0" : Str), NameKind.local), (("k" : Str), NameKind.local), (("int" : Str), NameKind.globalImplicit), (("told_by" : Str), NameKind.globalImplicit), (("rules" : Str), NameKind.free), (("signs" : Str), NameKind.free)] = some NameKind.globalImplicit := by decide +kernel
theorem ok_fits_signs {f : Addr} {fd : FuncData} (F : Fun K "fits_signs" "fits_signs" sx_fits_signs f fd) (T : Txt mg) (C_told_by : Callee P w K mg base "told_by" 2 2 g_told_by) : FnG P w K mg base CX0 3 f fd ["rules", "signs"] (spF K 2 g_fits_signs) := by
  refine d_ok F sc_fits_signs fun cdv A outer s H E hr hg => ?_
  have nd := sc_fits_signs.nd
  exact (ss_one (s_ret (m := false) (e_b1 (cr_all rfl) b_all rfl T.b_all bt_all (o_e (e_newL (n_comp (own := [("k", 2)]) rfl nd (IV.e (i_rng1 rfl T.b_range (a_cons (e_b1 call_len b_len rfl T.b_len bt_len (o_e (e_var (i := 1) rfl (.inr (.inl rfl))))) a_nil))) (by exact blkOk_by (N := nm_fits_signs) (sc := defScope sx_fits_signs) (own := [("k", 2)]) (by decide +kernel)) (fun _ _ _ _ _ => (g_n (i := 2) nd rfl (.inl (by exact lk_fits_signs_0_k)))) (fun _ _ _ _ _ => ts_nil) (fun _ _ _ _ _ => (e_cmp (op_eqD (hu64 hr)) v_eq (o_e (e_bt1 call_int1 b_int (by exact lk_fits_signs_0_int) T.b_int bt_int (o_e (e_callee (m := true) C_told_by hr hg (by exact lk_fits_signs_0_told_by) (a_cons (e_var (i := 0) rfl (.inr (.inl (by rfl)))) (a_cons (e_add (e_var (i := 2) rfl (.inl (by exact lk_fits_signs_0_k))) e_int) a_nil)) (cons_len (cons_len nil_len)))))) (o_e (e_ix (hu1 hr) (o_e (e_var (i := 1) rfl (.inr (.inl (by rfl))))) (o_e (e_var (i := 2) rfl (.inl (by exact lk_fits_signs_0_k))))))))))))))
abbrev sx_leap_rules_for : Stmt := topOf 9
abbrev nm_leap_rules_for : List Str := ["signs", "most", "many", "rules"]
theorem sc_leap_rules_for : FnScope ["signs", "most", "many", "rules"] ["signs", "most"] (defScope sx_leap_rules_for) := ⟨rfl, rfl, rfl, by decide +kernel, rfl, by decide +kernel, by decide +kernel⟩
theorem ok_leap_rules_for {f : Addr} {fd : FuncData} (F : Fun K "leap_rules_for" "leap_rules_for" sx_leap_rules_for f fd) (T : Txt mg) (C_fits_signs : Callee P w K mg base "fits_signs" 3 2 g_fits_signs) (C_rows_of_rules : Callee P w K mg base "rows_of_rules" 1 2 g_rows_of_rules) : FnG P w K mg base CX0 4 f fd ["signs", "most"] (spF K 2 g_leap_rules_for) := by
  refine d_ok F sc_leap_rules_for fun cdv A outer s H E hr hg => ?_
  have nd := sc_leap_rules_for.nd
  exact (ss_cons (s_for (m := true) PassesOwn.never rfl (i_rng1 rfl T.b_range (a_cons e_int a_nil)) (g_n (i := 2) nd rfl (.inl rfl))
    (ss_one (s_for (m := false) PassesOwn.never rfl (i_val (e_callee (m := true) C_rows_of_rules hr hg rfl (a_cons (e_var (i := 2) rfl (.inl rfl)) (a_cons (e_var (i := 1) rfl (.inl rfl)) a_nil)) (cons_len (cons_len nil_len)))) (g_n (i := 3) nd rfl (.inl rfl))
    (ss_one (s_if (m := false) (t_val (e_callee (m := true) C_fits_signs hr hg rfl (a_cons (e_var (i := 3) rfl (.inl rfl)) (a_cons (e_var (i := 0) rfl (.inl rfl)) a_nil)) (cons_len (cons_len nil_len)))) (ss_one (s_ret (m := true) (e_tup (a_cons e_str (a_cons (e_var (i := 3) rfl (.inl rfl)) a_nil)))))
    ss_nil)))))
    (ss_one (s_ret (m := true) (e_tup (a_cons e_str a_nil)))))
abbrev sx_law_rows : Stmt := topOf 18
abbrev nm_law_rows : List Str := ["many", "most", "rows", "turn", "longer", "row", "used", "n", "sign"]
theorem sc_law_rows : FnScope ["many", "most", "rows", "turn", "longer", "row", "used", "n", "sign"] ["many", "most"] (defScope sx_law_rows) := ⟨rfl, rfl, rfl, by decide +kernel, rfl, by decide +kernel, by decide +kernel⟩
theorem lk_law_rows_0_sign : List.lookup ("sign" : Str) [((".0" : Str), NameKind.local), (("n" : Str), NameKind.local), (("sign" : Str), NameKind.local)] = some NameKind.local := by decide +kernel
theorem lk_law_rows_0_n : List.lookup ("n" : Str) [((".0" : Str), NameKind.local), (("n" : Str), NameKind.local), (("sign" : Str), NameKind.local)] = some NameKind.local := by decide +kernel
theorem ok_law_rows {f : Addr} {fd : FuncData} (F : Fun K "_law_rows" "_law_rows" sx_law_rows f fd) (T : Txt mg)  : FnG P w K mg base CX0 1 f fd ["many", "most"] (spF K 2 g_law_rows) := by
  refine d_ok F sc_law_rows fun cdv A outer s H E hr hg => ?_
  have nd := sc_law_rows.nd
  exact (ss_cons (s_asg (m := true) (i := 2) nd rfl (.inl rfl) (e_lst (a_cons (e_tup a_nil) a_nil)))
    (ss_cons (s_for (m := true) PassesOwn.never rfl (i_rng1 rfl T.b_range (a_cons (e_var (i := 0) rfl (.inl rfl)) a_nil)) (g_n (i := 3) nd rfl (.inl rfl))
    (ss_cons (s_asg (m := true) (i := 4) nd rfl (.inl rfl) (e_lst a_nil))
    (ss_cons (s_for (m := true) PassesOwn.never rfl (i_val (e_bt1 (Cr.CallR.or call_list_of (call_listD rfl)) b_list rfl T.b_list bt_list (o_e (e_var (i := 2) rfl (.inl rfl))))) (g_n (i := 5) nd rfl (.inl rfl))
    (ss_cons (s_asgC (m := true) (i := 6) (own := [("n", 7), ("sign", 8)]) rfl nd rfl rfl (sw_true rfl rfl rfl (by decide +kernel)) (i_look (o_e (e_var (i := 5) rfl (.inl rfl)))) (by exact blkOk_by (N := nm_law_rows) (sc := defScope sx_law_rows) (own := [("n", 7), ("sign", 8)]) (by decide +kernel)) (fun _ _ _ _ _ => (g_t rfl (g_cons (g_n (i := 7) nd rfl (.inl (by exact lk_law_rows_0_n))) (g_cons (g_n (i := 8) nd rfl (.inl (by exact lk_law_rows_0_sign))) g_nil)))) (fun _ _ _ _ _ => ts_nil) (fun _ _ _ _ _ => (e_var (i := 7) rfl (.inl (by exact lk_law_rows_0_n)))))
    (ss_one (s_for (m := true) PassesOwn.never rfl (i_rng2 rfl T.b_range (a_cons e_int (a_cons (e_add (e_var (i := 1) rfl (.inl rfl)) e_int) a_nil))) (g_n (i := 7) nd rfl (.inl rfl))
    (ss_one (s_if (m := true) (t_cmp (op_ninAll (hu65 hr)) v_nin (o_e (e_var (i := 7) rfl (.inl rfl))) (o_e (e_var (i := 6) rfl (.inl rfl)))) (ss_one (s_asg (m := true) (i := 4) nd rfl (.inl rfl) (e_add (e_var (i := 4) rfl (.inl rfl)) (e_lst (a_cons (e_add (e_var (i := 5) rfl (.inl rfl)) (e_tup (a_cons (e_tup (a_cons (e_var (i := 7) rfl (.inl rfl)) (a_cons e_int a_nil))) a_nil))) (a_cons (e_add (e_var (i := 5) rfl (.inl rfl)) (e_tup (a_cons (e_tup (a_cons (e_var (i := 7) rfl (.inl rfl)) (a_cons e_int a_nil))) a_nil))) a_nil))))))
    ss_nil))))))
    (ss_one (s_asg (m := true) (i := 2) nd rfl (.inl rfl) (e_var (i := 4) rfl (.inl rfl)))))))
    (ss_one (s_ret (m := true) (e_var (i := 2) rfl (.inl rfl))))))
abbrev sx_law_found : Stmt := topOf 19
abbrev nm_law_found : List Str := ["signs", "most", "many", "rules", "k"]
theorem sc_law_found : FnScope ["signs", "most", "many", "rules", "k"] ["signs", "most"] (defScope sx_law_found) := ⟨rfl, rfl, rfl, by decide +kernel, rfl, by decide +kernel, by decide +kernel⟩
theorem lk_law_found_0_k : List.lookup ("k" : Str) [((".0" : Str), NameKind.local), (("k" : Str), NameKind.local), (("_law_leap" : Str), NameKind.globalImplicit), (("rules" : Str), NameKind.free)] = some NameKind.local := by decide +kernel
theorem lk_law_found_0_law_leap : List.lookup ("_law_leap" : Str) [((".0" : Str), NameKind.local), (("k" : Str), NameKind.local), (("_law_leap" : Str), NameKind.globalImplicit), (("rules" : Str), NameKind.free)] = some NameKind.globalImplicit := by decide +kernel
theorem ok_law_found {f : Addr} {fd : FuncData} (F : Fun K "_law_found" "_law_found" sx_law_found f fd) (T : Txt mg) (C_law_leap : Callee P w K mg base "_law_leap" 1 2 g_law_leap) (C_law_rows : Callee P w K mg base "_law_rows" 1 2 g_law_rows) : FnG P w K mg base CX0 2 f fd ["signs", "most"] (spF K 2 g_law_found) := by
  refine d_ok F sc_law_found fun cdv A outer s H E hr hg => ?_
  have nd := sc_law_found.nd
  exact (ss_cons (s_for (m := true) PassesOwn.never rfl (i_rng1 rfl T.b_range (a_cons e_int a_nil)) (g_n (i := 2) nd rfl (.inl rfl))
    (ss_one (s_for (m := false) PassesOwn.never rfl (i_val (e_callee (m := true) C_law_rows hr hg rfl (a_cons (e_var (i := 2) rfl (.inl rfl)) (a_cons (e_var (i := 1) rfl (.inl rfl)) a_nil)) (cons_len (cons_len nil_len)))) (g_n (i := 3) nd rfl (.inr rfl))
    (ss_one (s_if (m := false) (t_cmp (op_eqD (hu64 hr)) v_eq (o_e (e_newL (n_comp (own := [("k", 4)]) rfl nd (IV.e (i_rng1 rfl T.b_range (a_cons (e_b1 call_len b_len rfl T.b_len bt_len (o_e (e_var (i := 0) rfl (.inl rfl)))) a_nil))) (by exact blkOk_by (N := nm_law_found) (sc := defScope sx_law_found) (own := [("k", 4)]) (by decide +kernel)) (fun _ _ _ _ _ => (g_n (i := 4) nd rfl (.inl (by exact lk_law_found_0_k)))) (fun _ _ _ _ _ => ts_nil) (fun _ _ _ _ _ => (e_callee (m := true) C_law_leap hr hg (by exact lk_law_found_0_law_leap) (a_cons (e_var (i := 3) rfl (.inr (.inl (by rfl)))) (a_cons (e_add (e_var (i := 4) rfl (.inl (by exact lk_law_found_0_k))) e_int) a_nil)) (cons_len (cons_len nil_len))))))) (o_e (e_bt1 (Cr.CallR.or call_list_of (call_listD rfl)) b_list rfl T.b_list bt_list (o_e (e_var (i := 0) rfl (.inl rfl)))))) (ss_one (s_ret (m := true) (e_tup (a_cons e_str (a_cons (e_var (i := 3) rfl (.inr (.inl rfl))) a_nil)))))
    ss_nil)))))
    (ss_one (s_ret (m := true) (e_tup (a_cons e_str a_nil)))))
abbrev sx_years_told : Stmt := topOf 10
abbrev nm_years_told : List Str := ["rules", "begin", "end", "year"]
theorem sc_years_told : FnScope ["rules", "begin", "end", "year"] ["rules", "begin", "end"] (defScope sx_years_told) := ⟨rfl, rfl, rfl, by decide +kernel, rfl, by decide +kernel, by decide +kernel⟩
theorem lk_years_told_0_year : List.lookup ("year" : Str) [((".0" : Str), NameKind.local), (("year" : Str), NameKind.local), (("told_by" : Str), NameKind.globalImplicit), (("rules" : Str), NameKind.free)] = some NameKind.local := by decide +kernel
theorem lk_years_told_0_told_by : List.lookup ("told_by" : Str) [((".0" : Str), NameKind.local), (("year" : Str), NameKind.local), (("told_by" : Str), NameKind.globalImplicit), (("rules" : Str), NameKind.free)] = some NameKind.globalImplicit := by decide +kernel
theorem ok_years_told {f : Addr} {fd : FuncData} (F : Fun K "years_told" "years_told" sx_years_told f fd) (T : Txt mg) (C_told_by : Callee P w K mg base "told_by" 2 2 g_told_by) : FnG P w K mg base CX0 3 f fd ["rules", "begin", "end"] (spF K 3 g_years_told) := by
  refine d_ok F sc_years_told fun cdv A outer s H E hr hg => ?_
  have nd := sc_years_told.nd
  exact (ss_one (s_ret (m := false) (e_bt1 call_tuple_of b_tuple rfl T.b_tuple bt_tuple (o_e (e_newL (n_comp (own := [("year", 3)]) rfl nd (IV.e (i_rng2 rfl T.b_range (a_cons (e_var (i := 1) rfl (.inl rfl)) (a_cons (e_var (i := 2) rfl (.inl rfl)) a_nil)))) (by exact blkOk_by (N := nm_years_told) (sc := defScope sx_years_told) (own := [("year", 3)]) (by decide +kernel)) (fun _ _ _ _ _ => (g_n (i := 3) nd rfl (.inl (by exact lk_years_told_0_year)))) (fun _ _ _ _ _ => (ts_one (t_val (e_callee (m := true) C_told_by hr hg (by exact lk_years_told_0_told_by) (a_cons (e_var (i := 0) rfl (.inr (.inl (by rfl)))) (a_cons (e_var (i := 3) rfl (.inl (by exact lk_years_told_0_year))) a_nil)) (cons_len (cons_len nil_len)))))) (fun _ _ _ _ _ => (e_var (i := 3) rfl (.inl (by exact lk_years_told_0_year))))))))))
abbrev sx_common : Stmt := topOf 1
abbrev nm_common : List Str := ["a", "b"]
theorem sc_common : FnScope ["a", "b"] ["a", "b"] (defScope sx_common) := ⟨rfl, rfl, rfl, by decide +kernel, rfl, by decide +kernel, by decide +kernel⟩
theorem ok_common {f : Addr} {fd : FuncData} (F : Fun K "common" "common" sx_common f fd) (T : Txt mg)  : FnG P w K mg base CX0 1 f fd ["a", "b"] (spF K 2 g_common) := by
  refine d_ok F sc_common fun cdv A outer s H E hr hg => ?_
  have nd := sc_common.nd
  exact (ss_cons (s_par2 (m := true) (i := 0) (j := 1) rfl nd rfl rfl (by decide) rfl rfl (a_cons (e_b1 call_abs b_abs rfl T.b_abs bt_abs (o_e (e_var (i := 0) rfl (.inl rfl)))) (a_cons (e_b1 call_abs b_abs rfl T.b_abs bt_abs (o_e (e_var (i := 1) rfl (.inl rfl)))) a_nil)) (by rfl))
    (ss_cons (s_while (m := true) PassesOwn.never (t_cmp op_gt v_gt (o_e (e_var (i := 1) rfl (.inl rfl))) (o_e e_int))
    (ss_one (s_par2 (m := true) (i := 0) (j := 1) rfl nd rfl rfl (by decide) rfl rfl (a_cons (e_var (i := 1) rfl (.inl rfl)) (a_cons (e_mod (e_var (i := 0) rfl (.inl rfl)) (e_var (i := 1) rfl (.inl rfl))) a_nil)) (by rfl))))
    (ss_one (s_ret (m := true) (e_var (i := 0) rfl (.inl rfl))))))
abbrev sx_together : Stmt := topOf 2
abbrev nm_together : List Str := ["a", "b"]
theorem sc_together : FnScope ["a", "b"] ["a", "b"] (defScope sx_together) := ⟨rfl, rfl, rfl, by decide +kernel, rfl, by decide +kernel, by decide +kernel⟩
theorem ok_together {f : Addr} {fd : FuncData} (F : Fun K "together" "together" sx_together f fd) (T : Txt mg) (C_common : Callee P w K mg base "common" 1 2 g_common) : FnG P w K mg base CX0 2 f fd ["a", "b"] (spF K 2 g_together) := by
  refine d_ok F sc_together fun cdv A outer s H E hr hg => ?_
  have nd := sc_together.nd
  exact (ss_one (s_ret (m := false) (e_mul (e_div (e_var (i := 0) rfl (.inl rfl)) (e_callee (m := true) C_common hr hg rfl (a_cons (e_var (i := 0) rfl (.inl rfl)) (a_cons (e_var (i := 1) rfl (.inl rfl)) a_nil)) (cons_len (cons_len nil_len)))) (e_var (i := 1) rfl (.inl rfl)))))
abbrev sx_same_rules : Stmt := topOf 11
abbrev nm_same_rules : List Str := ["one", "other", "whole", "n", "_"]
theorem sc_same_rules : FnScope ["one", "other", "whole", "n", "_"] ["one", "other"] (defScope sx_same_rules) := ⟨rfl, rfl, rfl, by decide +kernel, rfl, by decide +kernel, by decide +kernel⟩
theorem ok_same_rules {f : Addr} {fd : FuncData} (F : Fun K "same_rules" "same_rules" sx_same_rules f fd) (T : Txt mg) (C_together : Callee P w K mg base "together" 2 2 g_together) (C_years_told : Callee P w K mg base "years_told" 3 3 g_years_told) : FnG P w K mg base CX0 4 f fd ["one", "other"] (spF K 2 g_same_rules) := by
  refine d_ok F sc_same_rules fun cdv A outer s H E hr hg => ?_
  have nd := sc_same_rules.nd
  exact (ss_cons (s_asg (m := true) (i := 2) nd rfl (.inl rfl) e_int)
    (ss_cons (s_for (m := true) PassesOwn.never rfl (i_val (e_add (e_var (i := 0) rfl (.inl rfl)) (e_var (i := 1) rfl (.inl rfl)))) (g_t rfl (g_cons (g_n (i := 3) nd rfl (.inl rfl)) (g_cons (g_n (i := 4) nd rfl (.inl rfl)) g_nil)))
    (ss_one (s_asg (m := false) (i := 2) nd rfl (.inl rfl) (e_callee (m := true) C_together hr hg rfl (a_cons (e_var (i := 2) rfl (.inl rfl)) (a_cons (e_var (i := 3) rfl (.inl rfl)) a_nil)) (cons_len (cons_len nil_len))))))
    (ss_one (s_ret (m := false) (e_cmp (op_eqD (hu64 hr)) v_eq (o_e (e_callee (m := true) C_years_told hr hg rfl (a_cons (e_var (i := 0) rfl (.inl rfl)) (a_cons e_int (a_cons (e_var (i := 2) rfl (.inl rfl)) a_nil))) (cons_len (cons_len (cons_len nil_len))))) (o_e (e_callee (m := true) C_years_told hr hg rfl (a_cons (e_var (i := 1) rfl (.inl rfl)) (a_cons e_int (a_cons (e_var (i := 2) rfl (.inl rfl)) a_nil))) (cons_len (cons_len (cons_len nil_len))))))))))
abbrev sx_law : Stmt := topOf 20
abbrev nm_law : List Str := ["script", "w", "turn", "most", "many", "rules", "signs", "begin", "end", "other", "alike", "k", "year"]
theorem sc_law : FnScope ["script", "w", "turn", "most", "many", "rules", "signs", "begin", "end", "other", "alike", "k", "year"] ["script"] (defScope sx_law) := ⟨rfl, rfl, rfl, by decide +kernel, rfl, by decide +kernel, by decide +kernel⟩
theorem lk_law_0_k : List.lookup ("k" : Str) [((".0" : Str), NameKind.local), (("k" : Str), NameKind.local), (("_law_leap" : Str), NameKind.globalImplicit), (("rules" : Str), NameKind.free)] = some NameKind.local := by decide +kernel
theorem lk_law_0_law_leap : List.lookup ("_law_leap" : Str) [((".0" : Str), NameKind.local), (("k" : Str), NameKind.local), (("_law_leap" : Str), NameKind.globalImplicit), (("rules" : Str), NameKind.free)] = some NameKind.globalImplicit := by decide +kernel
theorem lk_law_1_k : List.lookup ("k" : Str) [((".0" : Str), NameKind.local), (("k" : Str), NameKind.local), (("_law_next" : Str), NameKind.globalImplicit), (("w" : Str), NameKind.free)] = some NameKind.local := by decide +kernel
theorem lk_law_1_law_next : List.lookup ("_law_next" : Str) [((".0" : Str), NameKind.local), (("k" : Str), NameKind.local), (("_law_next" : Str), NameKind.globalImplicit), (("w" : Str), NameKind.free)] = some NameKind.globalImplicit := by decide +kernel
theorem lk_law_2_year : List.lookup ("year" : Str) [((".0" : Str), NameKind.local), (("year" : Str), NameKind.local), (("_law_leap" : Str), NameKind.globalImplicit), (("rules" : Str), NameKind.free)] = some NameKind.local := by decide +kernel
theorem lk_law_2_law_leap : List.lookup ("_law_leap" : Str) [((".0" : Str), NameKind.local), (("year" : Str), NameKind.local), (("_law_leap" : Str), NameKind.globalImplicit), (("rules" : Str), NameKind.free)] = some NameKind.globalImplicit := by decide +kernel
theorem lk_law_3_year : List.lookup ("year" : Str) [((".0" : Str), NameKind.local), (("year" : Str), NameKind.local), (("_law_leap" : Str), NameKind.globalImplicit), (("other" : Str), NameKind.free), (("rules" : Str), NameKind.free)] = some NameKind.local := by decide +kernel
theorem lk_law_3_law_leap : List.lookup ("_law_leap" : Str) [((".0" : Str), NameKind.local), (("year" : Str), NameKind.local), (("_law_leap" : Str), NameKind.globalImplicit), (("other" : Str), NameKind.free), (("rules" : Str), NameKind.free)] = some NameKind.globalImplicit := by decide +kernel
theorem ok_law {f : Addr} {fd : FuncData} (F : Fun K "law" "law" sx_law f fd) (T : Txt mg) (C_law_draws : Callee P w K mg base "_law_draws" 1 2 g_law_draws) (C_law_found : Callee P w K mg base "_law_found" 2 2 g_law_found) (C_law_leap : Callee P w K mg base "_law_leap" 1 2 g_law_leap) (C_law_next : Callee P w K mg base "_law_next" 1 2 g_law_next) (C_law_rules : Callee P w K mg base "_law_rules" 2 2 g_law_rules) (C_law_same : Callee P w K mg base "_law_same" 1 2 g_law_same) (C_leap_rules_for : Callee P w K mg base "leap_rules_for" 4 2 g_leap_rules_for) (C_same_rules : Callee P w K mg base "same_rules" 4 2 g_same_rules) (C_years_told : Callee P w K mg base "years_told" 3 3 g_years_told) : FnG P w K mg base CX0 5 f fd ["script"] (spF K 1 g_law) := by
  refine d_ok F sc_law fun cdv A outer s H E hr hg => ?_
  have nd := sc_law.nd
  exact (ss_cons (s_asg (m := false) (i := 1) nd rfl (.inr rfl) (e_sd2 (e_callee (m := true) C_law_draws hr hg rfl (a_cons (e_var (i := 0) rfl (.inl rfl)) (a_cons e_int a_nil)) (cons_len (cons_len nil_len))) e_int))
    (ss_cons (s_for (m := true) PassesOwn.never rfl (i_rng1 rfl T.b_range (a_cons e_int a_nil)) (g_n (i := 2) nd rfl (.inl rfl))
    (ss_cons (s_asg (m := false) (i := 3) nd rfl (.inl rfl) (e_add e_int (e_callee (m := true) C_law_next hr hg rfl (a_cons (e_var (i := 1) rfl (.inr (.inl rfl))) (a_cons e_int a_nil)) (cons_len (cons_len nil_len)))))
    (ss_cons (s_asg (m := false) (i := 4) nd rfl (.inl rfl) (e_add e_int (e_callee (m := true) C_law_next hr hg rfl (a_cons (e_var (i := 1) rfl (.inr (.inl rfl))) (a_cons e_int a_nil)) (cons_len (cons_len nil_len)))))
    (ss_cons (s_asg (m := false) (i := 5) nd rfl (.inr rfl) (e_callee (m := false) C_law_rules hr hg rfl (a_cons (e_var (i := 1) rfl (.inr (.inl rfl))) (a_cons (e_add e_int (e_callee (m := true) C_law_next hr hg rfl (a_cons (e_var (i := 1) rfl (.inr (.inl rfl))) (a_cons e_int a_nil)) (cons_len (cons_len nil_len)))) a_nil)) (cons_len (cons_len nil_len))))
    (ss_cons (s_asg (m := false) (i := 6) nd rfl (.inl rfl) (e_bt1 call_tuple_of b_tuple rfl T.b_tuple bt_tuple (o_e (e_newL (n_comp (own := [("k", 11)]) rfl nd (IV.e (i_rng1 rfl T.b_range (a_cons (e_var (i := 4) rfl (.inl rfl)) a_nil))) (by exact blkOk_by (N := nm_law) (sc := defScope sx_law) (own := [("k", 11)]) (by decide +kernel)) (fun _ _ _ _ _ => (g_n (i := 11) nd rfl (.inl (by exact lk_law_0_k)))) (fun _ _ _ _ _ => ts_nil) (fun _ _ _ _ _ => (e_callee (m := true) C_law_leap hr hg (by exact lk_law_0_law_leap) (a_cons (e_var (i := 5) rfl (.inr (.inl (by rfl)))) (a_cons (e_add (e_var (i := 11) rfl (.inl (by exact lk_law_0_k))) e_int) a_nil)) (cons_len (cons_len nil_len)))))))))
    (ss_cons (s_if (m := false) (t_cmp (op_eqD (hu64 hr)) v_eq (o_e (e_callee (m := true) C_law_next hr hg rfl (a_cons (e_var (i := 1) rfl (.inr (.inl rfl))) (a_cons e_int a_nil)) (cons_len (cons_len nil_len)))) (o_e e_int)) (ss_one (s_asg (m := false) (i := 6) nd rfl (.inl rfl) (e_bt1 call_tuple_of b_tuple rfl T.b_tuple bt_tuple (o_e (e_newL (n_comp (own := [("k", 11)]) rfl nd (IV.e (i_rng1 rfl T.b_range (a_cons (e_var (i := 4) rfl (.inl rfl)) a_nil))) (by exact blkOk_by (N := nm_law) (sc := defScope sx_law) (own := [("k", 11)]) (by decide +kernel)) (fun _ _ _ _ _ => (g_n (i := 11) nd rfl (.inl (by exact lk_law_1_k)))) (fun _ _ _ _ _ => ts_nil) (fun _ _ _ _ _ => (e_callee (m := true) C_law_next hr hg (by exact lk_law_1_law_next) (a_cons (e_var (i := 1) rfl (.inr (.inl (by rfl)))) (a_cons e_int a_nil)) (cons_len (cons_len nil_len))))))))))
    ss_nil)
    (ss_cons (s_if (m := false) (t_not (t_val (e_callee (m := false) C_law_same hr hg rfl (a_cons (e_callee (m := true) C_leap_rules_for hr hg rfl (a_cons (e_var (i := 6) rfl (.inl rfl)) (a_cons (e_var (i := 3) rfl (.inl rfl)) a_nil)) (cons_len (cons_len nil_len))) (a_cons (e_callee (m := true) C_law_found hr hg rfl (a_cons (e_var (i := 6) rfl (.inl rfl)) (a_cons (e_var (i := 3) rfl (.inl rfl)) a_nil)) (cons_len (cons_len nil_len))) a_nil)) (cons_len (cons_len nil_len))))) (ss_one (s_ret (m := true) e_bl))
    ss_nil)
    (ss_cons (s_asg (m := false) (i := 7) nd rfl (.inl rfl) (e_sub (e_callee (m := true) C_law_next hr hg rfl (a_cons (e_var (i := 1) rfl (.inr (.inl rfl))) (a_cons e_int a_nil)) (cons_len (cons_len nil_len))) e_int))
    (ss_cons (s_asg (m := false) (i := 8) nd rfl (.inl rfl) (e_sub (e_add (e_var (i := 7) rfl (.inl rfl)) (e_callee (m := true) C_law_next hr hg rfl (a_cons (e_var (i := 1) rfl (.inr (.inl rfl))) (a_cons e_int a_nil)) (cons_len (cons_len nil_len)))) e_int))
    (ss_cons (s_if (m := false) (t_not (t_val (e_callee (m := false) C_law_same hr hg rfl (a_cons (e_callee (m := true) C_years_told hr hg rfl (a_cons (e_var (i := 5) rfl (.inr (.inl rfl))) (a_cons (e_var (i := 7) rfl (.inl rfl)) (a_cons (e_var (i := 8) rfl (.inl rfl)) a_nil))) (cons_len (cons_len (cons_len nil_len)))) (a_cons (e_bt1 call_tuple_of b_tuple rfl T.b_tuple bt_tuple (o_e (e_newL (n_comp (own := [("year", 12)]) rfl nd (IV.e (i_rng2 rfl T.b_range (a_cons (e_var (i := 7) rfl (.inl rfl)) (a_cons (e_var (i := 8) rfl (.inl rfl)) a_nil)))) (by exact blkOk_by (N := nm_law) (sc := defScope sx_law) (own := [("year", 12)]) (by decide +kernel)) (fun _ _ _ _ _ => (g_n (i := 12) nd rfl (.inl (by exact lk_law_2_year)))) (fun _ _ _ _ _ => (ts_one (t_cmp (op_eqD (hu64 hr)) v_eq (o_e (e_callee (m := true) C_law_leap hr hg (by exact lk_law_2_law_leap) (a_cons (e_var (i := 5) rfl (.inr (.inl (by rfl)))) (a_cons (e_var (i := 12) rfl (.inl (by exact lk_law_2_year))) a_nil)) (cons_len (cons_len nil_len)))) (o_e e_int)))) (fun _ _ _ _ _ => (e_var (i := 12) rfl (.inl (by exact lk_law_2_year)))))))) a_nil)) (cons_len (cons_len nil_len))))) (ss_one (s_ret (m := true) e_bl))
    ss_nil)
    (ss_cons (s_asg (m := false) (i := 9) nd rfl (.inr rfl) (e_callee (m := false) C_law_rules hr hg rfl (a_cons (e_var (i := 1) rfl (.inr (.inl rfl))) (a_cons (e_add e_int (e_callee (m := true) C_law_next hr hg rfl (a_cons (e_var (i := 1) rfl (.inr (.inl rfl))) (a_cons e_int a_nil)) (cons_len (cons_len nil_len)))) a_nil)) (cons_len (cons_len nil_len))))
    (ss_cons (s_asg (m := false) (i := 9) nd rfl (.inr rfl) (e_ix (hu1 hr) (o_e (e_lst (a_cons (e_var (i := 9) rfl (.inr (.inl rfl))) (a_cons (e_var (i := 5) rfl (.inr (.inl rfl))) (a_cons (e_add (e_var (i := 5) rfl (.inr (.inl rfl))) (e_tup (a_cons (e_tup (a_cons e_int (a_cons (e_callee (m := true) C_law_next hr hg rfl (a_cons (e_var (i := 1) rfl (.inr (.inl rfl))) (a_cons e_int a_nil)) (cons_len (cons_len nil_len))) a_nil))) a_nil))) (a_cons (e_rev (o_e (e_var (i := 5) rfl (.inr (.inl rfl))))) (a_cons (e_add (e_tup (a_cons (e_tup (a_cons e_int (a_cons e_int a_nil))) a_nil)) (e_var (i := 5) rfl (.inr (.inl rfl)))) (a_cons (e_sl (o_e (e_var (i := 5) rfl (.inr (.inl rfl)))) (q_some e_int) q_none) a_nil)))))))) (o_e (e_callee (m := true) C_law_next hr hg rfl (a_cons (e_var (i := 1) rfl (.inr (.inl rfl))) (a_cons e_int a_nil)) (cons_len (cons_len nil_len))))))
    (ss_cons (s_asg (m := false) (i := 10) nd rfl (.inl rfl) (e_cmp (op_eqD (hu64 hr)) v_eq (o_e (e_newL (n_comp (own := [("year", 12)]) rfl nd (IV.e (i_rng1 rfl T.b_range (a_cons e_int a_nil))) (by exact blkOk_by (N := nm_law) (sc := defScope sx_law) (own := [("year", 12)]) (by decide +kernel)) (fun _ _ _ _ _ => (g_n (i := 12) nd rfl (.inl (by exact lk_law_3_year)))) (fun _ _ _ _ _ => (ts_one (t_cmp (op_neD (hu64 hr)) v_ne (o_e (e_callee (m := true) C_law_leap hr hg (by exact lk_law_3_law_leap) (a_cons (e_var (i := 5) rfl (.inr (.inl (by rfl)))) (a_cons (e_var (i := 12) rfl (.inl (by exact lk_law_3_year))) a_nil)) (cons_len (cons_len nil_len)))) (o_e (e_callee (m := true) C_law_leap hr hg (by exact lk_law_3_law_leap) (a_cons (e_var (i := 9) rfl (.inr (.inl (by rfl)))) (a_cons (e_var (i := 12) rfl (.inl (by exact lk_law_3_year))) a_nil)) (cons_len (cons_len nil_len))))))) (fun _ _ _ _ _ => (e_var (i := 12) rfl (.inl (by exact lk_law_3_year))))))) (o_e (e_lst a_nil))))
    (ss_one (s_if (m := false) (t_w (w_or (t_cmp (op_neD (hu64 hr)) v_ne (o_e (e_callee (m := true) C_same_rules hr hg rfl (a_cons (e_var (i := 5) rfl (.inr (.inl rfl))) (a_cons (e_var (i := 9) rfl (.inr (.inl rfl))) a_nil)) (cons_len (cons_len nil_len)))) (o_e (e_var (i := 10) rfl (.inl rfl)))) (w_or1 (t_cmp (op_neD (hu64 hr)) v_ne (o_e (e_callee (m := true) C_same_rules hr hg rfl (a_cons (e_var (i := 9) rfl (.inr (.inl rfl))) (a_cons (e_var (i := 5) rfl (.inr (.inl rfl))) a_nil)) (cons_len (cons_len nil_len)))) (o_e (e_var (i := 10) rfl (.inl rfl))))))) (ss_one (s_ret (m := true) e_bl))
    ss_nil)))))))))))))))
    (ss_one (s_ret (m := true) e_bl))))
end
theorem all_mk {l : PySem.W.OpenLaw} {w : World} {K : PySem.W.Frag} {h : Heap} {mg : Str → Option Value} {fa f0 f1 f2 f3 f4 f5 f6 f7 f8 f9 f10 f11 f12 f13 f14 f15 f16 : Addr} (X : K.In h) (G : h.Ns mainGlobals mg) (hfa : mg "law" = some (.ref fa)) (LT : ∀ ns : List Int, ns.length ≤ 63 → ∃ st1, g_law [.scr ns] [] = .ok (.bl true) st1)
    {od0 an0 od1 an1 od2 an2 od3 an3 od4 an4 od5 an5 od6 an6 od7 an7 od8 an8 od9 an9 od10 an10 od11 an11 od12 an12 od13 an13 od14 an14 od15 an15 od16 an16 : Option Addr} {sl0 sl1 sl2 sl3 sl4 sl5 sl6 sl7 sl8 sl9 sl10 sl11 sl12 sl13 sl14 sl15 sl16 : Array (Option Value)} {oc0 kV0 dc0 pm0 cd0 ct0 oc1 kV1 dc1 pm1 cd1 ct1 oc2 kV2 dc2 pm2 cd2 ct2 oc3 kV3 dc3 pm3 cd3 ct3 oc4 kV4 dc4 pm4 cd4 ct4 oc5 kV5 dc5 pm5 cd5 ct5 oc6 kV6 dc6 pm6 cd6 ct6 oc7 kV7 dc7 pm7 cd7 ct7 oc8 kV8 dc8 pm8 cd8 ct8 oc9 kV9 dc9 pm9 cd9 ct9 oc10 kV10 dc10 pm10 cd10 ct10 oc11 kV11 dc11 pm11 cd11 ct11 oc12 kV12 dc12 pm12 cd12 ct12 oc13 kV13 dc13 pm13 cd13 ct13 oc14 kV14 dc14 pm14 cd14 ct14 oc15 kV15 dc15 pm15 cd15 ct15 oc16 kV16 dc16 pm16 cd16 ct16 : Value}
    (a0 : PySem.W.nsIn K mainGlobals "_law_draws" = some (some (.ref f0))) (l0 : K.lookup f0 = some ⟨oc0, od0, .func (PySem.W.fnOf "_law_draws" "_law_draws" (defArgs sx_law_draws) (defBody sx_law_draws) (defScope sx_law_draws) .none kV0 dc0 pm0 an0 cd0 ct0), sl0⟩) (c0 : PySem.W.codeIn K cd0 "_law_draws" = true) (k0 : PySem.W.keepIn K (.ref f0) = true)
    (a1 : PySem.W.nsIn K mainGlobals "_law_next" = some (some (.ref f1))) (l1 : K.lookup f1 = some ⟨oc1, od1, .func (PySem.W.fnOf "_law_next" "_law_next" (defArgs sx_law_next) (defBody sx_law_next) (defScope sx_law_next) .none kV1 dc1 pm1 an1 cd1 ct1), sl1⟩) (c1 : PySem.W.codeIn K cd1 "_law_next" = true) (k1 : PySem.W.keepIn K (.ref f1) = true)
    (a2 : PySem.W.nsIn K mainGlobals "_law_rules" = some (some (.ref f2))) (l2 : K.lookup f2 = some ⟨oc2, od2, .func (PySem.W.fnOf "_law_rules" "_law_rules" (defArgs sx_law_rules) (defBody sx_law_rules) (defScope sx_law_rules) .none kV2 dc2 pm2 an2 cd2 ct2), sl2⟩) (c2 : PySem.W.codeIn K cd2 "_law_rules" = true) (k2 : PySem.W.keepIn K (.ref f2) = true)
    (a3 : PySem.W.nsIn K mainGlobals "_law_same" = some (some (.ref f3))) (l3 : K.lookup f3 = some ⟨oc3, od3, .func (PySem.W.fnOf "_law_same" "_law_same" (defArgs sx_law_same) (defBody sx_law_same) (defScope sx_law_same) .none kV3 dc3 pm3 an3 cd3 ct3), sl3⟩) (c3 : PySem.W.codeIn K cd3 "_law_same" = true) (k3 : PySem.W.keepIn K (.ref f3) = true)
    (a4 : PySem.W.nsIn K mainGlobals "_law_leap" = some (some (.ref f4))) (l4 : K.lookup f4 = some ⟨oc4, od4, .func (PySem.W.fnOf "_law_leap" "_law_leap" (defArgs sx_law_leap) (defBody sx_law_leap) (defScope sx_law_leap) .none kV4 dc4 pm4 an4 cd4 ct4), sl4⟩) (c4 : PySem.W.codeIn K cd4 "_law_leap" = true) (k4 : PySem.W.keepIn K (.ref f4) = true)
    (a5 : PySem.W.nsIn K mainGlobals "rows_of_rules" = some (some (.ref f5))) (l5 : K.lookup f5 = some ⟨oc5, od5, .func (PySem.W.fnOf "rows_of_rules" "rows_of_rules" (defArgs sx_rows_of_rules) (defBody sx_rows_of_rules) (defScope sx_rows_of_rules) .none kV5 dc5 pm5 an5 cd5 ct5), sl5⟩) (c5 : PySem.W.codeIn K cd5 "rows_of_rules" = true) (k5 : PySem.W.keepIn K (.ref f5) = true)
    (a6 : PySem.W.nsIn K mainGlobals "is_leap" = some (some (.ref f6))) (l6 : K.lookup f6 = some ⟨oc6, od6, .func (PySem.W.fnOf "is_leap" "is_leap" (defArgs sx_is_leap) (defBody sx_is_leap) (defScope sx_is_leap) .none kV6 dc6 pm6 an6 cd6 ct6), sl6⟩) (c6 : PySem.W.codeIn K cd6 "is_leap" = true) (k6 : PySem.W.keepIn K (.ref f6) = true)
    (a7 : PySem.W.nsIn K mainGlobals "told_by" = some (some (.ref f7))) (l7 : K.lookup f7 = some ⟨oc7, od7, .func (PySem.W.fnOf "told_by" "told_by" (defArgs sx_told_by) (defBody sx_told_by) (defScope sx_told_by) .none kV7 dc7 pm7 an7 cd7 ct7), sl7⟩) (c7 : PySem.W.codeIn K cd7 "told_by" = true) (k7 : PySem.W.keepIn K (.ref f7) = true)
    (a8 : PySem.W.nsIn K mainGlobals "fits_signs" = some (some (.ref f8))) (l8 : K.lookup f8 = some ⟨oc8, od8, .func (PySem.W.fnOf "fits_signs" "fits_signs" (defArgs sx_fits_signs) (defBody sx_fits_signs) (defScope sx_fits_signs) .none kV8 dc8 pm8 an8 cd8 ct8), sl8⟩) (c8 : PySem.W.codeIn K cd8 "fits_signs" = true) (k8 : PySem.W.keepIn K (.ref f8) = true)
    (a9 : PySem.W.nsIn K mainGlobals "leap_rules_for" = some (some (.ref f9))) (l9 : K.lookup f9 = some ⟨oc9, od9, .func (PySem.W.fnOf "leap_rules_for" "leap_rules_for" (defArgs sx_leap_rules_for) (defBody sx_leap_rules_for) (defScope sx_leap_rules_for) .none kV9 dc9 pm9 an9 cd9 ct9), sl9⟩) (c9 : PySem.W.codeIn K cd9 "leap_rules_for" = true) (k9 : PySem.W.keepIn K (.ref f9) = true)
    (a10 : PySem.W.nsIn K mainGlobals "_law_rows" = some (some (.ref f10))) (l10 : K.lookup f10 = some ⟨oc10, od10, .func (PySem.W.fnOf "_law_rows" "_law_rows" (defArgs sx_law_rows) (defBody sx_law_rows) (defScope sx_law_rows) .none kV10 dc10 pm10 an10 cd10 ct10), sl10⟩) (c10 : PySem.W.codeIn K cd10 "_law_rows" = true) (k10 : PySem.W.keepIn K (.ref f10) = true)
    (a11 : PySem.W.nsIn K mainGlobals "_law_found" = some (some (.ref f11))) (l11 : K.lookup f11 = some ⟨oc11, od11, .func (PySem.W.fnOf "_law_found" "_law_found" (defArgs sx_law_found) (defBody sx_law_found) (defScope sx_law_found) .none kV11 dc11 pm11 an11 cd11 ct11), sl11⟩) (c11 : PySem.W.codeIn K cd11 "_law_found" = true) (k11 : PySem.W.keepIn K (.ref f11) = true)
    (a12 : PySem.W.nsIn K mainGlobals "years_told" = some (some (.ref f12))) (l12 : K.lookup f12 = some ⟨oc12, od12, .func (PySem.W.fnOf "years_told" "years_told" (defArgs sx_years_told) (defBody sx_years_told) (defScope sx_years_told) .none kV12 dc12 pm12 an12 cd12 ct12), sl12⟩) (c12 : PySem.W.codeIn K cd12 "years_told" = true) (k12 : PySem.W.keepIn K (.ref f12) = true)
    (a13 : PySem.W.nsIn K mainGlobals "common" = some (some (.ref f13))) (l13 : K.lookup f13 = some ⟨oc13, od13, .func (PySem.W.fnOf "common" "common" (defArgs sx_common) (defBody sx_common) (defScope sx_common) .none kV13 dc13 pm13 an13 cd13 ct13), sl13⟩) (c13 : PySem.W.codeIn K cd13 "common" = true) (k13 : PySem.W.keepIn K (.ref f13) = true)
    (a14 : PySem.W.nsIn K mainGlobals "together" = some (some (.ref f14))) (l14 : K.lookup f14 = some ⟨oc14, od14, .func (PySem.W.fnOf "together" "together" (defArgs sx_together) (defBody sx_together) (defScope sx_together) .none kV14 dc14 pm14 an14 cd14 ct14), sl14⟩) (c14 : PySem.W.codeIn K cd14 "together" = true) (k14 : PySem.W.keepIn K (.ref f14) = true)
    (a15 : PySem.W.nsIn K mainGlobals "same_rules" = some (some (.ref f15))) (l15 : K.lookup f15 = some ⟨oc15, od15, .func (PySem.W.fnOf "same_rules" "same_rules" (defArgs sx_same_rules) (defBody sx_same_rules) (defScope sx_same_rules) .none kV15 dc15 pm15 an15 cd15 ct15), sl15⟩) (c15 : PySem.W.codeIn K cd15 "same_rules" = true) (k15 : PySem.W.keepIn K (.ref f15) = true)
    (a16 : PySem.W.nsIn K mainGlobals "law" = some (some (.ref f16))) (l16 : K.lookup f16 = some ⟨oc16, od16, .func (PySem.W.fnOf "law" "law" (defArgs sx_law) (defBody sx_law) (defScope sx_law) .none kV16 dc16 pm16 an16 cd16 ct16), sl16⟩) (c16 : PySem.W.codeIn K cd16 "law" = true) (k16 : PySem.W.keepIn K (.ref f16) = true)
    (z_abs : PySem.W.nsIn K mainGlobals "abs" = some none)
    (z_all : PySem.W.nsIn K mainGlobals "all" = some none)
    (z_int : PySem.W.nsIn K mainGlobals "int" = some none)
    (z_len : PySem.W.nsIn K mainGlobals "len" = some none)
    (z_list : PySem.W.nsIn K mainGlobals "list" = some none)
    (z_range : PySem.W.nsIn K mainGlobals "range" = some none)
    (z_repr : PySem.W.nsIn K mainGlobals "repr" = some none)
    (z_tuple : PySem.W.nsIn K mainGlobals "tuple" = some none)
    : ∃ fd : FuncData, (∀ (s : Shared) (v : Value), BindsTo s fd ⟨[v], []⟩ [("script", v)]) ∧ ∀ base : Heap, K.In base → base.Ns mainGlobals mg → FnG l.prog w K mg base CX0 5 fa fd ["script"] (spLaw K) := by
  have e := hfa.symm.trans (PySem.W.mg_of X G a16)
  cases e
  have T : Txt mg := ⟨PySem.W.mg_none_of X G z_abs, PySem.W.mg_none_of X G z_all, PySem.W.mg_none_of X G z_int, PySem.W.mg_none_of X G z_len, PySem.W.mg_none_of X G z_list, PySem.W.mg_none_of X G z_range, PySem.W.mg_none_of X G z_repr, PySem.W.mg_none_of X G z_tuple⟩
  have F0 := fun_mk (st := sx_law_draws) l0 c0 k0
  have b0 := F0.binds (ps := ["script", "many"]) fun _ _ _ _ _ _ us hl => match us, hl with | [_, _], _ => rfl
  have F1 := fun_mk (st := sx_law_next) l1 c1 k1
  have b1 := F1.binds (ps := ["w", "many"]) fun _ _ _ _ _ _ us hl => match us, hl with | [_, _], _ => rfl
  have F2 := fun_mk (st := sx_law_rules) l2 c2 k2
  have b2 := F2.binds (ps := ["w", "most"]) fun _ _ _ _ _ _ us hl => match us, hl with | [_, _], _ => rfl
  have F3 := fun_mk (st := sx_law_same) l3 c3 k3
  have b3 := F3.binds (ps := ["told", "due"]) fun _ _ _ _ _ _ us hl => match us, hl with | [_, _], _ => rfl
  have F4 := fun_mk (st := sx_law_leap) l4 c4 k4
  have b4 := F4.binds (ps := ["rules", "year"]) fun _ _ _ _ _ _ us hl => match us, hl with | [_, _], _ => rfl
  have F5 := fun_mk (st := sx_rows_of_rules) l5 c5 k5
  have b5 := F5.binds (ps := ["many", "most"]) fun _ _ _ _ _ _ us hl => match us, hl with | [_, _], _ => rfl
  have F6 := fun_mk (st := sx_is_leap) l6 c6 k6
  have b6 := F6.binds (ps := ["calendar", "year"]) fun _ _ _ _ _ _ us hl => match us, hl with | [_, _], _ => rfl
  have F7 := fun_mk (st := sx_told_by) l7 c7 k7
  have b7 := F7.binds (ps := ["rules", "year"]) fun _ _ _ _ _ _ us hl => match us, hl with | [_, _], _ => rfl
  have F8 := fun_mk (st := sx_fits_signs) l8 c8 k8
  have b8 := F8.binds (ps := ["rules", "signs"]) fun _ _ _ _ _ _ us hl => match us, hl with | [_, _], _ => rfl
  have F9 := fun_mk (st := sx_leap_rules_for) l9 c9 k9
  have b9 := F9.binds (ps := ["signs", "most"]) fun _ _ _ _ _ _ us hl => match us, hl with | [_, _], _ => rfl
  have F10 := fun_mk (st := sx_law_rows) l10 c10 k10
  have b10 := F10.binds (ps := ["many", "most"]) fun _ _ _ _ _ _ us hl => match us, hl with | [_, _], _ => rfl
  have F11 := fun_mk (st := sx_law_found) l11 c11 k11
  have b11 := F11.binds (ps := ["signs", "most"]) fun _ _ _ _ _ _ us hl => match us, hl with | [_, _], _ => rfl
  have F12 := fun_mk (st := sx_years_told) l12 c12 k12
  have b12 := F12.binds (ps := ["rules", "begin", "end"]) fun _ _ _ _ _ _ us hl => match us, hl with | [_, _, _], _ => rfl
  have F13 := fun_mk (st := sx_common) l13 c13 k13
  have b13 := F13.binds (ps := ["a", "b"]) fun _ _ _ _ _ _ us hl => match us, hl with | [_, _], _ => rfl
  have F14 := fun_mk (st := sx_together) l14 c14 k14
  have b14 := F14.binds (ps := ["a", "b"]) fun _ _ _ _ _ _ us hl => match us, hl with | [_, _], _ => rfl
  have F15 := fun_mk (st := sx_same_rules) l15 c15 k15
  have b15 := F15.binds (ps := ["one", "other"]) fun _ _ _ _ _ _ us hl => match us, hl with | [_, _], _ => rfl
  have F16 := fun_mk (st := sx_law) l16 c16 k16
  have b16 := F16.binds (ps := ["script"]) fun _ _ _ _ _ _ us hl => match us, hl with | [_], _ => rfl
  refine ⟨PySem.W.fnOf "law" "law" (defArgs sx_law) (defBody sx_law) (defScope sx_law) .none kV16 dc16 pm16 an16 cd16 ct16, fun s v => .of_eq rfl, fun base _ _ => ?_⟩
  have C_law_draws : Callee l.prog w K mg base "_law_draws" 1 2 g_law_draws := callee_mk (ok_law_draws F0 T ) (PySem.W.mg_of X G a0) k0 b0
  have C_law_next : Callee l.prog w K mg base "_law_next" 1 2 g_law_next := callee_mk (ok_law_next F1 T ) (PySem.W.mg_of X G a1) k1 b1
  have C_law_rules : Callee l.prog w K mg base "_law_rules" 2 2 g_law_rules := callee_mk (ok_law_rules F2 T C_law_next) (PySem.W.mg_of X G a2) k2 b2
  have C_law_same : Callee l.prog w K mg base "_law_same" 1 2 g_law_same := callee_mk (ok_law_same F3 T ) (PySem.W.mg_of X G a3) k3 b3
  have C_law_leap : Callee l.prog w K mg base "_law_leap" 1 2 g_law_leap := callee_mk (ok_law_leap F4 T ) (PySem.W.mg_of X G a4) k4 b4
  have C_rows_of_rules : Callee l.prog w K mg base "rows_of_rules" 1 2 g_rows_of_rules := callee_mk (ok_rows_of_rules F5 T ) (PySem.W.mg_of X G a5) k5 b5
  have C_is_leap : Callee l.prog w K mg base "is_leap" 1 2 g_is_leap := callee_mk (ok_is_leap F6 T ) (PySem.W.mg_of X G a6) k6 b6
  have C_told_by : Callee l.prog w K mg base "told_by" 2 2 g_told_by := callee_mk (ok_told_by F7 T C_is_leap) (PySem.W.mg_of X G a7) k7 b7
  have C_fits_signs : Callee l.prog w K mg base "fits_signs" 3 2 g_fits_signs := callee_mk (ok_fits_signs F8 T C_told_by) (PySem.W.mg_of X G a8) k8 b8
  have C_leap_rules_for : Callee l.prog w K mg base "leap_rules_for" 4 2 g_leap_rules_for := callee_mk (ok_leap_rules_for F9 T C_fits_signs C_rows_of_rules) (PySem.W.mg_of X G a9) k9 b9
  have C_law_rows : Callee l.prog w K mg base "_law_rows" 1 2 g_law_rows := callee_mk (ok_law_rows F10 T ) (PySem.W.mg_of X G a10) k10 b10
  have C_law_found : Callee l.prog w K mg base "_law_found" 2 2 g_law_found := callee_mk (ok_law_found F11 T C_law_leap C_law_rows) (PySem.W.mg_of X G a11) k11 b11
  have C_years_told : Callee l.prog w K mg base "years_told" 3 3 g_years_told := callee_mk (ok_years_told F12 T C_told_by) (PySem.W.mg_of X G a12) k12 b12
  have C_common : Callee l.prog w K mg base "common" 1 2 g_common := callee_mk (ok_common F13 T ) (PySem.W.mg_of X G a13) k13 b13
  have C_together : Callee l.prog w K mg base "together" 2 2 g_together := callee_mk (ok_together F14 T C_common) (PySem.W.mg_of X G a14) k14 b14
  have C_same_rules : Callee l.prog w K mg base "same_rules" 4 2 g_same_rules := callee_mk (ok_same_rules F15 T C_together C_years_told) (PySem.W.mg_of X G a15) k15 b15
  exact law_ok (ok_law F16 T C_law_draws C_law_found C_law_leap C_law_next C_law_rules C_law_same C_leap_rules_for C_same_rules C_years_told) LT
end Cr.L49
open PySem PySem.W PyProof.Rows
set_option maxRecDepth 100000 in
set_option maxHeartbeats 0 in
theorem PySem.Challenge.cw_daysworn_k49_leap_rules_found_holds : PySem.Challenge.rw_daysworn_k49_leap_rules_found.Holds := by
  w_on; o_law; k_head; (case hw => w_witness2)
  k_fill
  refine Cr.walk_law (l := PySem.Challenge.rw_daysworn_k49_leap_rules_found) (k := 5) (x := "script") (CX := fun _ => L2.CX0) rfl rfl ⟨rfl, by decide, by decide⟩ (fun w h Y => PySem.W.kIn_of Y) ?F (fun _ _ _ _ _ z => z)
  case F =>
    intro w mg fa h KX G hmg
    refine' Cr.L49.all_mk (l := PySem.Challenge.rw_daysworn_k49_leap_rules_found) (w := w) KX G hmg Cr.L49.law_true ?a0 ?l0 ?c0 ?k0 ?a1 ?l1 ?c1 ?k1 ?a2 ?l2 ?c2 ?k2 ?a3 ?l3 ?c3 ?k3 ?a4 ?l4 ?c4 ?k4 ?a5 ?l5 ?c5 ?k5 ?a6 ?l6 ?c6 ?k6 ?a7 ?l7 ?c7 ?k7 ?a8 ?l8 ?c8 ?k8 ?a9 ?l9 ?c9 ?k9 ?a10 ?l10 ?c10 ?k10 ?a11 ?l11 ?c11 ?k11 ?a12 ?l12 ?c12 ?k12 ?a13 ?l13 ?c13 ?k13 ?a14 ?l14 ?c14 ?k14 ?a15 ?l15 ?c15 ?k15 ?a16 ?l16 ?c16 ?k16 ?z_abs ?z_all ?z_int ?z_len ?z_list ?z_range ?z_repr ?z_tuple
    (case a0 => k_is)
    (case l0 => k_is)
    (case c0 => k_is)
    (case k0 => k_is)
    (case a1 => k_is)
    (case l1 => k_is)
    (case c1 => k_is)
    (case k1 => k_is)
    (case a2 => k_is)
    (case l2 => k_is)
    (case c2 => k_is)
    (case k2 => k_is)
    (case a3 => k_is)
    (case l3 => k_is)
    (case c3 => k_is)
    (case k3 => k_is)
    (case a4 => k_is)
    (case l4 => k_is)
    (case c4 => k_is)
    (case k4 => k_is)
    (case a5 => k_is)
    (case l5 => k_is)
    (case c5 => k_is)
    (case k5 => k_is)
    (case a6 => k_is)
    (case l6 => k_is)
    (case c6 => k_is)
    (case k6 => k_is)
    (case a7 => k_is)
    (case l7 => k_is)
    (case c7 => k_is)
    (case k7 => k_is)
    (case a8 => k_is)
    (case l8 => k_is)
    (case c8 => k_is)
    (case k8 => k_is)
    (case a9 => k_is)
    (case l9 => k_is)
    (case c9 => k_is)
    (case k9 => k_is)
    (case a10 => k_is)
    (case l10 => k_is)
    (case c10 => k_is)
    (case k10 => k_is)
    (case a11 => k_is)
    (case l11 => k_is)
    (case c11 => k_is)
    (case k11 => k_is)
    (case a12 => k_is)
    (case l12 => k_is)
    (case c12 => k_is)
    (case k12 => k_is)
    (case a13 => k_is)
    (case l13 => k_is)
    (case c13 => k_is)
    (case k13 => k_is)
    (case a14 => k_is)
    (case l14 => k_is)
    (case c14 => k_is)
    (case k14 => k_is)
    (case a15 => k_is)
    (case l15 => k_is)
    (case c15 => k_is)
    (case k15 => k_is)
    (case a16 => k_is)
    (case l16 => k_is)
    (case c16 => k_is)
    (case k16 => k_is)
    (case z_abs => k_is)
    (case z_all => k_is)
    (case z_int => k_is)
    (case z_len => k_is)
    (case z_list => k_is)
    (case z_range => k_is)
    (case z_repr => k_is)
    (case z_tuple => k_is)
