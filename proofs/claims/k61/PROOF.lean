import PyProof.Rows.All
import Wide.All
import OpenK.AllK
import Wide.FinOn
import HandS.ForMost
import HandS.TupAny
import HandS.TupMul
import HandS.Style
import HandS.Deep
import HandS.Text
import HandS.SortInts
import HandS.Conv
import HandS.RaiseMore
import KE.KSortedM
import HandS.More
import PySem.Challenge.RW_daysworn_k61_backups_that_are_kept
set_option Elab.async false
set_option linter.all false
set_option maxRecDepth 100000
set_option autoImplicit false
/-! Cr1: tree values, what stands for them in the abstract heap, and the judgements. -/
namespace Cr
open PySem PySem.Spec PyProof.Rows L2

/-- a value as a tree; `ref n`: the n-th shared object -/
inductive W where
  | non
  | bl (b : Bool)
  | int (i : Int)
  | str (x : Str)
  | tup (xs : List W)
  | lst (xs : List W)
  | dct (kvs : List (Key × W))
  | dtt (kvs : List (List Key × W))
  | ref (n : Nat)
  | scr (xs : List Int)
  deriving Inhabited

/-- what a slot or a field holds: a value that stands for ever, or a list, a dict of its own -/
inductive O where
  | w (v : W)
  | ol (xs : List W)
  | od (kvs : List (Key × W))
  | ot (kvs : List (List Key × W))
  | oll (xs : List (List W))
  deriving Inhabited

abbrev Env := List (Option O)
/-- a shared object: of which class (none: a dict with text keys), its fields -/
structure Ob where
  cls : Option Str
  fs : List (Str × O)
  deriving Inhabited
abbrev Store := List Ob
structure Exc where
  cls : Str
  arg : W
inductive R (α : Type) where
  | ok (a : α) (st : Store)
  | ex (e : Exc) (st : Store)
  | no
@[inline] def R.bind {α β : Type} (r : R α) (k : α → Store → R β) : R β :=
  match r with
  | .ok a st => k a st
  | .ex e st => .ex e st
  | .no => .no
theorem R.bind_ok {α β : Type} {r : R α} {k : α → Store → R β} {b : β} {st : Store} (h : r.bind k = .ok b st) : ∃ a s, r = .ok a s ∧ k a s = .ok b st := by
  cases r with
  | ok a s => exact ⟨a, s, rfl, h⟩
  | ex e s => cases h
  | no => cases h
@[simp] theorem R.ok_bind {α β : Type} (a : α) (st : Store) (k : α → Store → R β) : (R.ok a st).bind k = k a st := rfl
@[simp] theorem R.ex_bind {α β : Type} (e : Exc) (st : Store) (k : α → Store → R β) : (R.ex e st : R α).bind k = .ex e st := rfl
@[simp] theorem R.no_bind {α β : Type} (k : α → Store → R β) : (R.no : R α).bind k = .no := rfl

/-! ### what stands for a value -/
inductive Place where
  | env (i : Nat)
  | obj (n : Nat)
  | fld (n : Nat) (f : Str)
  | out
abbrev Ow := Addr → Option Place
structure Cf where
  ow : Ow
  H : Hp
  ρ : List Addr
/-- the longest list -/
abbrev LIM : Nat := 16777216
theorem lim_eq : sizeLine = LIM := by rw [sizeLine_eq]
/-- what nobody may change -/
def Cf.fz (c : Cf) : Hp := fun a => match c.ow a with
  | none => c.H a
  | some _ => none
theorem Cf.fz_of {c : Cf} {a : Addr} (h : c.ow a = none) : c.fz a = c.H a := by unfold Cf.fz; rw [h]
theorem Cf.of_fz {c : Cf} {a : Addr} {o : HO} (h : c.fz a = some o) : c.ow a = none ∧ c.H a = some o := by
  unfold Cf.fz at h
  cases q : c.ow a with
  | none => rw [q] at h; exact ⟨rfl, h⟩
  | some p => rw [q] at h; cases h

section
variable (K : PySem.W.Frag) (H : Hp) (ρ : List Addr)
mutual
inductive Rep : W → V → Prop
  | non : Rep .non .non
  | bl (b : Bool) : Rep (.bl b) (.bl b)
  | int (i : Int) : Rep (.int i) (.int i)
  | str (x : Str) : PyData.strOk x = true → x.length ≤ LIM → Rep (.str x) (.str x)
  | tup {a : Addr} {ws : List W} {vs : List V} : SqT K H a vs → RepL ws vs → ws.length ≤ LIM → Rep (.tup ws) (.ref a)
  | lst {a : Addr} {ws : List W} {vs : List V} : H a = some (.lst vs) → RepL ws vs → ws.length ≤ LIM → Rep (.lst ws) (.ref a)
  | scr {a : Addr} {ns : List Int} : SqL K H a (ns.map V.int) → ns.length ≤ LIM → Rep (.scr ns) (.ref a)
  | dct {a : Addr} {o : PySem.Obj} {ws : List (Key × W)} {vs : List (Key × V)} : H a = some (.frz o (.dK vs)) → RepD ws vs → ws.length ≤ LIM → Rep (.dct ws) (.ref a)
  | dtt {a : Addr} {o : PySem.Obj} {ws : List (List Key × W)} {vs : List (List Key × V)} : H a = some (.frz o (.dT vs)) → RepT ws vs → ws.length ≤ LIM → Rep (.dtt ws) (.ref a)
  | ref {n : Nat} {a : Addr} : ρ[n]? = some a → Rep (.ref n) (.ref a)
inductive RepL : List W → List V → Prop
  | nil : RepL [] []
  | cons {w : W} {v : V} {ws : List W} {vs : List V} : Rep w v → RepL ws vs → RepL (w :: ws) (v :: vs)
inductive RepD : List (Key × W) → List (Key × V) → Prop
  | nil : RepD [] []
  | cons {k : Key} {w : W} {v : V} {ws : List (Key × W)} {vs : List (Key × V)} : Rep w v → RepD ws vs → RepD ((k, w) :: ws) ((k, v) :: vs)
inductive RepT : List (List Key × W) → List (List Key × V) → Prop
  | nil : RepT [] []
  | cons {k : List Key} {w : W} {v : V} {ws : List (List Key × W)} {vs : List (List Key × V)} : Rep w v → RepT ws vs → RepT ((k, w) :: ws) ((k, v) :: vs)
end
end

section
variable {K : PySem.W.Frag} {H H' : Hp} {ρ ρ' : List Addr}
theorem sqT_mono (h : ∀ a o, H a = some o → H' a = some o) {a : Addr} {vs : List V} (q : SqT K H a vs) : SqT K H' a vs := by
  rcases q with (q | ⟨o, q⟩) | q
  · exact .inl (.inl (h _ _ q))
  · exact .inl (.inr ⟨o, h _ _ q⟩)
  · exact .inr q
theorem sqL_mono (h : ∀ a o, H a = some o → H' a = some o) {a : Addr} {vs : List V} (q : SqL K H a vs) : SqL K H' a vs := by
  rcases q with (q | ⟨o, q⟩) | q
  · exact .inl (.inl (h _ _ q))
  · exact .inl (.inr ⟨o, h _ _ q⟩)
  · exact .inr q
mutual
theorem Rep.mono (h : ∀ a o, H a = some o → H' a = some o) (hr : ∀ (n : Nat) (a : Addr), ρ[n]? = some a → ρ'[n]? = some a) : ∀ {w : W} {v : V}, Rep K H ρ w v → Rep K H' ρ' w v
  | _, _, .non => .non
  | _, _, .bl b => .bl b
  | _, _, .int i => .int i
  | _, _, .str x e z => .str x e z
  | _, _, .tup q r z => .tup (sqT_mono h q) (RepL.mono h hr r) z
  | _, _, .lst q r z => .lst (h _ _ q) (RepL.mono h hr r) z
  | _, _, .scr q z => .scr (sqL_mono h q) z
  | _, _, .dct q r z => .dct (h _ _ q) (RepD.mono h hr r) z
  | _, _, .dtt q r z => .dtt (h _ _ q) (RepT.mono h hr r) z
  | _, _, .ref e => .ref (hr _ _ e)
theorem RepL.mono (h : ∀ a o, H a = some o → H' a = some o) (hr : ∀ (n : Nat) (a : Addr), ρ[n]? = some a → ρ'[n]? = some a) : ∀ {ws : List W} {vs : List V}, RepL K H ρ ws vs → RepL K H' ρ' ws vs
  | _, _, .nil => .nil
  | _, _, .cons q r => .cons (Rep.mono h hr q) (RepL.mono h hr r)
theorem RepD.mono (h : ∀ a o, H a = some o → H' a = some o) (hr : ∀ (n : Nat) (a : Addr), ρ[n]? = some a → ρ'[n]? = some a) : ∀ {ws : List (Key × W)} {vs : List (Key × V)}, RepD K H ρ ws vs → RepD K H' ρ' ws vs
  | _, _, .nil => .nil
  | _, _, .cons q r => .cons (Rep.mono h hr q) (RepD.mono h hr r)
theorem RepT.mono (h : ∀ a o, H a = some o → H' a = some o) (hr : ∀ (n : Nat) (a : Addr), ρ[n]? = some a → ρ'[n]? = some a) : ∀ {ws : List (List Key × W)} {vs : List (List Key × V)}, RepT K H ρ ws vs → RepT K H' ρ' ws vs
  | _, _, .nil => .nil
  | _, _, .cons q r => .cons (Rep.mono h hr q) (RepT.mono h hr r)
end
theorem RepL.length : ∀ {ws : List W} {vs : List V}, RepL K H ρ ws vs → ws.length = vs.length
  | _, _, .nil => rfl
  | _, _, .cons _ r => by simp [RepL.length r]
theorem RepL.get : ∀ {ws : List W} {vs : List V} {i : Nat} {w : W}, RepL K H ρ ws vs → ws[i]? = some w → ∃ v, vs[i]? = some v ∧ Rep K H ρ w v
  | _, _, _, _, .nil, e => by simp at e
  | _, _, 0, _, .cons q _, e => by simp at e; subst e; exact ⟨_, rfl, q⟩
  | _, _, i + 1, w, .cons _ r, e => by
    obtain ⟨v, h1, h2⟩ := RepL.get (i := i) (w := w) r (by simpa using e)
    exact ⟨v, by simpa using h1, h2⟩
theorem RepL.append : ∀ {ws ws' : List W} {vs vs' : List V}, RepL K H ρ ws vs → RepL K H ρ ws' vs' → RepL K H ρ (ws ++ ws') (vs ++ vs')
  | _, _, _, _, .nil, s => s
  | _, _, _, _, .cons q r, s => .cons q (RepL.append r s)
theorem RepL.drop : ∀ {ws : List W} {vs : List V} (n : Nat), RepL K H ρ ws vs → RepL K H ρ (ws.drop n) (vs.drop n)
  | _, _, 0, r => r
  | _, _, _ + 1, .nil => .nil
  | _, _, n + 1, .cons _ r => RepL.drop n r
theorem RepL.take : ∀ {ws : List W} {vs : List V} (n : Nat), RepL K H ρ ws vs → RepL K H ρ (ws.take n) (vs.take n)
  | _, _, 0, _ => .nil
  | _, _, _ + 1, .nil => .nil
  | _, _, n + 1, .cons q r => .cons q (RepL.take n r)
theorem RepL.set {w : W} {v : V} (q : Rep K H ρ w v) : ∀ {ws : List W} {vs : List V} (i : Nat), RepL K H ρ ws vs → RepL K H ρ (ws.set i w) (vs.set i v)
  | _, _, _, .nil => .nil
  | _, _, 0, .cons _ r => .cons q r
  | _, _, i + 1, .cons p r => .cons p (RepL.set q i r)
theorem RepL.reverse : ∀ {ws : List W} {vs : List V}, RepL K H ρ ws vs → RepL K H ρ ws.reverse vs.reverse
  | _, _, .nil => .nil
  | _, _, .cons q r => by simp only [List.reverse_cons]; exact RepL.append (RepL.reverse r) (.cons q .nil)
end

abbrev RepC (K : PySem.W.Frag) (c : Cf) : W → V → Prop := Rep K c.fz c.ρ
abbrev RepLC (K : PySem.W.Frag) (c : Cf) : List W → List V → Prop := RepL K c.fz c.ρ
/-- what may be read of a slot's thing, where it stands -/
inductive Pk (K : PySem.W.Frag) (c : Cf) : O → V → Prop
  | w {x : W} {v : V} : RepC K c x v → Pk K c (.w x) v
  | ol {a : Addr} {ws : List W} {vs : List V} : c.H a = some (.lst vs) → RepLC K c ws vs → ws.length ≤ LIM → Pk K c (.ol ws) (.ref a)
  | od {a : Addr} {ws : List (Key × W)} {vs : List (Key × V)} : c.H a = some (.dK vs) → RepD K c.fz c.ρ ws vs → ws.length ≤ LIM → Pk K c (.od ws) (.ref a)
  | ot {a : Addr} {ws : List (List Key × W)} {vs : List (List Key × V)} : c.H a = some (.dT vs) → RepT K c.fz c.ρ ws vs → ws.length ≤ LIM → Pk K c (.ot ws) (.ref a)
/-- .. and it is the place's own -/
def Own (c : Cf) (p : Place) : O → V → Prop
  | .w _, _ => True
  | _, v => ∃ a, v = .ref a ∧ c.ow a = some p
structure Hd (K : PySem.W.Frag) (c : Cf) (p : Place) (o : O) (v : V) : Prop where
  pk : Pk K c o v
  own : Own c p o v

structure EnvR (K : PySem.W.Frag) (c : Cf) (env : Env) (σ : L2.St) : Prop where
  len : env.length = σ.length
  at_ : ∀ (i : Nat) (o : O), env[i]? = some (some o) → ∃ v, σ[i]? = some (some v) ∧ Hd K c (.env i) o v
inductive FldR (K : PySem.W.Frag) (c : Cf) (n : Nat) : List (Str × O) → List (Key × V) → Prop
  | nil : FldR K c n [] []
  | cons {f : Str} {o : O} {v : V} {fs : List (Str × O)} {vs : List (Key × V)} : Hd K c (.fld n f) o v → FldR K c n fs vs → FldR K c n ((f, o) :: fs) ((.inr f, v) :: vs)
inductive ObR (K : PySem.W.Frag) (c : Cf) (n : Nat) (ob : Ob) (a : Addr) : Prop
  | dict {vs : List (Key × V)} : ob.cls = none → c.ow a = some (.obj n) → c.H a = some (.dK vs) → FldR K c n ob.fs vs → ObR K c n ob a
structure StR (K : PySem.W.Frag) (c : Cf) (st : Store) : Prop where
  len : st.length = c.ρ.length
  at_ : ∀ (n : Nat) (ob : Ob), st[n]? = some ob → ∃ a, c.ρ[n]? = some a ∧ ObR K c n ob a
def Wf (c : Cf) : Prop := ∀ a p, c.ow a = some p → ∃ o, c.H a = some o

def Place.mine : Place → Bool
  | .env _ => true
  | .out => true
  | _ => false
/-- an expression has run -/
structure Ext (m : Bool) (c c' : Cf) (st st' : Store) : Prop where
  frz : ∀ a o, c.ow a = none → c.H a = some o → c'.ow a = none ∧ c'.H a = some o
  own : ∀ a p, c.ow a = some p → p.mine = true → c'.ow a = some p ∧ c'.H a = c.H a
  loc : ∀ (n : Nat) (a : Addr), c.ρ[n]? = some a → c'.ρ[n]? = some a
  still : m = true → st' = st ∧ ∀ a o, c.H a = some o → c'.ow a = c.ow a ∧ c'.H a = some o
/-- a statement has run -/
structure ExS (c c' : Cf) : Prop where
  frz : ∀ a o, c.ow a = none → c.H a = some o → c'.ow a = none ∧ c'.H a = some o
  out : ∀ a, c.ow a = some .out → c'.ow a = some .out ∧ c'.H a = c.H a
  loc : ∀ (n : Nat) (a : Addr), c.ρ[n]? = some a → c'.ρ[n]? = some a

section
variable {K : PySem.W.Frag} {m : Bool} {c c1 c2 : Cf} {st st1 st2 : Store} {env : Env} {σ : L2.St}
theorem Ext.refl (m : Bool) (c : Cf) (st : Store) : Ext m c c st st := ⟨fun _ _ h h' => ⟨h, h'⟩, fun _ _ h _ => ⟨h, rfl⟩, fun _ _ h => h, fun _ => ⟨rfl, fun _ _ h => ⟨rfl, h⟩⟩⟩
theorem Ext.trans (a : Ext m c c1 st st1) (b : Ext m c1 c2 st1 st2) : Ext m c c2 st st2 where
  frz := fun x o h h' => let ⟨p, q⟩ := a.frz x o h h'; b.frz x o p q
  own := fun x p h h' => by
    obtain ⟨q, r⟩ := a.own x p h h'
    obtain ⟨q', r'⟩ := b.own x p q h'
    exact ⟨q', r'.trans r⟩
  loc := fun n x h => b.loc n x (a.loc n x h)
  still := fun h => by
    obtain ⟨e1, h1⟩ := a.still h
    obtain ⟨e2, h2⟩ := b.still h
    refine ⟨e2.trans e1, fun x o q => ?_⟩
    obtain ⟨p1, q1⟩ := h1 x o q
    obtain ⟨p2, q2⟩ := h2 x o q1
    exact ⟨p2.trans p1, q2⟩
theorem Ext.gen (a : Ext m c c1 st st1) : Ext false c c1 st st1 := ⟨a.frz, a.own, a.loc, fun h => nomatch h⟩
theorem Ext.s (a : Ext m c c1 st st1) : ExS c c1 := ⟨a.frz, fun x h => a.own x .out h rfl, a.loc⟩
theorem ExS.refl (c : Cf) : ExS c c := ⟨fun _ _ h h' => ⟨h, h'⟩, fun _ h => ⟨h, rfl⟩, fun _ _ h => h⟩
theorem ExS.trans (a : ExS c c1) (b : ExS c1 c2) : ExS c c2 where
  frz := fun x o h h' => let ⟨p, q⟩ := a.frz x o h h'; b.frz x o p q
  out := fun x h => by
    obtain ⟨q, r⟩ := a.out x h
    obtain ⟨q', r'⟩ := b.out x q
    exact ⟨q', r'.trans r⟩
  loc := fun n x h => b.loc n x (a.loc n x h)
theorem fz_le (h : ∀ a o, c.ow a = none → c.H a = some o → c1.ow a = none ∧ c1.H a = some o) : ∀ a o, c.fz a = some o → c1.fz a = some o := fun a o q => by
  obtain ⟨p, q⟩ := Cf.of_fz q
  obtain ⟨p', q'⟩ := h a o p q
  rw [Cf.fz_of p']; exact q'
theorem Ext.rep (a : Ext m c c1 st st1) {w : W} {v : V} (r : RepC K c w v) : RepC K c1 w v := r.mono (fz_le a.frz) a.loc
theorem Ext.repL (a : Ext m c c1 st st1) {w : List W} {v : List V} (r : RepLC K c w v) : RepLC K c1 w v := r.mono (fz_le a.frz) a.loc
theorem ExS.rep (a : ExS c c1) {w : W} {v : V} (r : RepC K c w v) : RepC K c1 w v := r.mono (fz_le a.frz) a.loc
theorem ExS.repL (a : ExS c c1) {w : List W} {v : List V} (r : RepLC K c w v) : RepLC K c1 w v := r.mono (fz_le a.frz) a.loc
/-- a place's own thing is kept where the place is ours -/
theorem Hd.keep {p : Place} {o : O} {v : V} (h : Hd K c p o v) (hf : ∀ a o, c.ow a = none → c.H a = some o → c1.ow a = none ∧ c1.H a = some o) (hl : ∀ (n : Nat) (a : Addr), c.ρ[n]? = some a → c1.ρ[n]? = some a)
    (hp : ∀ a, c.ow a = some p → c1.ow a = some p ∧ c1.H a = c.H a) : Hd K c1 p o v := by
  obtain ⟨pk, ow⟩ := h
  cases pk with
  | w r => exact ⟨.w (r.mono (fz_le hf) hl), trivial⟩
  | ol e r z =>
    obtain ⟨a, q, w⟩ := ow
    cases q
    obtain ⟨w', e'⟩ := hp _ w
    exact ⟨.ol (e'.trans e) (r.mono (fz_le hf) hl) z, _, rfl, w'⟩
  | od e r z =>
    obtain ⟨a, q, w⟩ := ow
    cases q
    obtain ⟨w', e'⟩ := hp _ w
    exact ⟨.od (e'.trans e) (r.mono (fz_le hf) hl) z, _, rfl, w'⟩
  | ot e r z =>
    obtain ⟨a, q, w⟩ := ow
    cases q
    obtain ⟨w', e'⟩ := hp _ w
    exact ⟨.ot (e'.trans e) (r.mono (fz_le hf) hl) z, _, rfl, w'⟩
theorem Ext.envR (a : Ext m c c1 st st1) (e : EnvR K c env σ) : EnvR K c1 env σ := ⟨e.len, fun i o h => by
  obtain ⟨v, h1, h2⟩ := e.at_ i o h
  exact ⟨v, h1, h2.keep a.frz a.loc fun x q => a.own x _ q rfl⟩⟩
end

/-- the state of a def that runs -/
structure Sm (K : PySem.W.Frag) (c : Cf) (env : Env) (st : Store) (σ : L2.St) : Prop where
  e : EnvR K c env σ
  s : StR K c st
  wf : Wf c

/-! ### the judgements -/
abbrev Ef := Env → Store → R W
abbrev Af := Env → Store → R (List W)
abbrev Pf := Env → Store → Option O
inductive Fl where
  | nx (env : Env)
  | rt (w : W)
abbrev Sf := Env → Store → R Fl
/-- a def's meaning -/
abbrev Df := List W → Store → R W

def tEf (K : PySem.W.Frag) (m : Bool) (f : Ef) : TE := fun σ H Q => ∃ ow ρ env st, Sm K ⟨ow, H, ρ⟩ env st σ ∧ ∃ w st', f env st = .ok w st' ∧
  ∀ v c', Ext m ⟨ow, H, ρ⟩ c' st st' → StR K c' st' → Wf c' → RepC K c' w v → Q v c'.H
def tAf (K : PySem.W.Frag) (m : Bool) (f : Af) : TA := fun σ H Q => ∃ ow ρ env st, Sm K ⟨ow, H, ρ⟩ env st σ ∧ ∃ ws st', f env st = .ok ws st' ∧
  ∀ vs c', Ext m ⟨ow, H, ρ⟩ c' st st' → StR K c' st' → Wf c' → RepLC K c' ws vs → Q vs c'.H
/-- a test -/
abbrev Tf := Env → Store → R Bool
def tTf (K : PySem.W.Frag) (m : Bool) (f : Tf) : TT := fun σ H Q => ∃ ow ρ env st, Sm K ⟨ow, H, ρ⟩ env st σ ∧ ∃ b st', f env st = .ok b st' ∧
  ∀ c', Ext m ⟨ow, H, ρ⟩ c' st st' → StR K c' st' → Wf c' → Q b c'.H
/-- a thing where it stands -/
def tPf (K : PySem.W.Frag) (p : Pf) : TE := fun σ H Q => ∃ ow ρ env st, Sm K ⟨ow, H, ρ⟩ env st σ ∧ ∃ o, p env st = some o ∧ ∀ v, Pk K ⟨ow, H, ρ⟩ o v → Q v H
def tSf (K : PySem.W.Frag) (f : Sf) : TS := fun D σ H => ∃ ow ρ env st, Sm K ⟨ow, H, ρ⟩ env st σ ∧ ∃ fl st', f env st = .ok fl st' ∧
  match fl with
  | .nx env' => ∀ σ' c', Sm K c' env' st' σ' → ExS ⟨ow, H, ρ⟩ c' → D.nx σ' c'.H
  | .rt w => ∀ v c', StR K c' st' → Wf c' → RepC K c' w v → ExS ⟨ow, H, ρ⟩ c' → D.rt v c'.H

structure EV (m : Bool) (X : Cx) (e : Expr) (f : Ef) : Prop where
  pe : PE X e (tEf X.K m f)
structure AV (m : Bool) (X : Cx) (es : List Expr) (f : Af) : Prop where
  pa : PA X es (tAf X.K m f)
structure TV (m : Bool) (X : Cx) (e : Expr) (f : Tf) : Prop where
  pt : PT X e (tTf X.K m f)
structure PV (X : Cx) (e : Expr) (p : Pf) : Prop where
  pe : PE X e (tPf X.K p)
structure SV (X : Cx) (s : Stmt) (f : Sf) : Prop where
  ps : PS X s (tSf X.K f)
structure SSV (X : Cx) (s : List Stmt) (f : Sf) : Prop where
  pss : PSs X s (tSf X.K f)

/-! ### consequence -/
section
variable {X : Cx}
theorem _root_.L2.PE.imp {e : Expr} {t t' : TE} (h : PE X e t) (i : ∀ σ H Q, t' σ H Q → t σ H Q) : PE X e t' := ⟨fun pins s σ H Q I q => h.run pins s σ H Q I (i σ H Q q)⟩
theorem _root_.L2.PA.imp {e : List Expr} {t t' : TA} (h : PA X e t) (i : ∀ σ H Q, t' σ H Q → t σ H Q) : PA X e t' := ⟨fun pos pins s σ H Q I q => h.run pos pins s σ H Q I (i σ H Q q)⟩
theorem _root_.L2.PT.imp {e : Expr} {t t' : TT} (h : PT X e t) (i : ∀ σ H Q, t' σ H Q → t σ H Q) : PT X e t' := ⟨fun pins s σ H Q I q => h.run pins s σ H Q I (i σ H Q q)⟩
theorem _root_.L2.PS.imp {e : Stmt} {t t' : TS} (h : PS X e t) (i : ∀ D σ H, t' D σ H → t D σ H) : PS X e t' := ⟨fun pins s σ H D I q => h.run pins s σ H D I (i D σ H q)⟩
theorem _root_.L2.PSs.imp {e : List Stmt} {t t' : TS} (h : PSs X e t) (i : ∀ D σ H, t' D σ H → t D σ H) : PSs X e t' := ⟨fun pins s σ H D I q => h.run pins s σ H D I (i D σ H q)⟩
/-- an expression's thing is locked, for ever -/
theorem _root_.L2.PE.lock {e : Expr} {t : TE} (h : PE X e t) : PE X e (fun σ H Q => t σ H fun v H1 => ∃ d u, H1 d = some u ∧ Mut (some u) ∧ ∀ od, Q v (upd H1 d (.frz od u))) := by
  refine ⟨fun pins s σ H Q I hw => ?_⟩
  refine thn (h.run pins s σ H _ I hw) fun v s1 ⟨x, H1, I1, r, d, u, hd, mu, q⟩ => ?_
  obtain ⟨od, I2⟩ := I1.lock hd mu
  exact ⟨x, _, I2, r, q od⟩
end
end Cr
/-! Cr2: expressions: names, constants, arithmetic, comparisons, tests. -/
namespace Cr
open PySem PySem.Spec PyProof.Rows L2

section
variable {K : PySem.W.Frag} {m : Bool} {c c1 c2 : Cf} {st st1 st2 : Store} {env : Env} {σ : L2.St}
theorem Ext.any (a : Ext true c c1 st st1) : Ext m c c1 st st1 := ⟨a.frz, a.own, a.loc, fun _ => a.still rfl⟩
theorem Ext.st_eq (a : Ext true c c1 st st1) : st1 = st := (a.still rfl).1
theorem FldR.keep {n : Nat} (hf : ∀ a o, c.ow a = none → c.H a = some o → c1.ow a = none ∧ c1.H a = some o) (hl : ∀ (n : Nat) (a : Addr), c.ρ[n]? = some a → c1.ρ[n]? = some a) (hp : ∀ a f, c.ow a = some (.fld n f) → c1.ow a = some (.fld n f) ∧ c1.H a = c.H a) :
    ∀ {fs : List (Str × O)} {vs : List (Key × V)}, FldR K c n fs vs → FldR K c1 n fs vs
  | _, _, .nil => .nil
  | _, _, .cons h r => .cons (h.keep hf hl fun a e => hp a _ e) (FldR.keep hf hl hp r)
theorem StR.still (s : StR K c st) (wf : Wf c) (h : ∀ a o, c.H a = some o → c1.ow a = c.ow a ∧ c1.H a = some o) (e : c1.ρ = c.ρ) : StR K c1 st := by
  have hf : ∀ a o, c.ow a = none → c.H a = some o → c1.ow a = none ∧ c1.H a = some o := fun a o q r => let ⟨x, y⟩ := h a o r; ⟨x.trans q, y⟩
  have hp : ∀ a p, c.ow a = some p → c1.ow a = some p ∧ c1.H a = c.H a := fun a p q => by
    obtain ⟨o, r⟩ := wf a p q
    obtain ⟨x, y⟩ := h a o r
    exact ⟨x.trans q, y.trans r.symm⟩
  refine ⟨s.len.trans (by rw [e]), fun n ob q => ?_⟩
  obtain ⟨a, h1, h2⟩ := s.at_ n ob q
  refine ⟨a, by rw [e]; exact h1, ?_⟩
  cases h2 with
  | dict e1 e2 e3 r =>
    obtain ⟨x, y⟩ := hp _ _ e2
    exact .dict e1 x (y.trans e3) (r.keep hf (fun n a z => by rw [e]; exact z) fun a f z => hp _ _ z)
/-- a new thing that stands for ever -/
theorem alloc (K : PySem.W.Frag) (st : Store) {c : Cf} {p : Addr} (o : HO) (wf : Wf c) (hp : c.H p = none) :
    Ext true c ⟨c.ow, upd c.H p o, c.ρ⟩ st st ∧ (StR K c st → StR K ⟨c.ow, upd c.H p o, c.ρ⟩ st) ∧ Wf ⟨c.ow, upd c.H p o, c.ρ⟩ ∧ Cf.fz ⟨c.ow, upd c.H p o, c.ρ⟩ p = some o := by
  have op : c.ow p = none := by
    cases q : c.ow p with
    | none => rfl
    | some x => obtain ⟨u, e⟩ := wf p x q; rw [hp] at e; cases e
  have keep : ∀ a u, c.H a = some u → c.ow a = c.ow a ∧ upd c.H p o a = some u := fun a u e => ⟨rfl, by rw [upd_ne (ne_of_none e hp)]; exact e⟩
  refine ⟨⟨fun a u h e => ⟨h, (keep a u e).2⟩, fun a x h _ => ⟨h, ?_⟩, fun _ _ e => e, fun _ => ⟨rfl, keep⟩⟩, fun s => s.still wf keep rfl, fun a x h => ?_, ?_⟩
  · obtain ⟨u, e⟩ := wf a x h
    exact ((keep a u e).2).trans e.symm
  · obtain ⟨u, e⟩ := wf a x h
    exact ⟨u, (keep a u e).2⟩
  · rw [Cf.fz_of (show (Cf.mk c.ow (upd c.H p o) c.ρ).ow p = none from op)]
    exact upd_same
end

/-! ### what a rule by values gives -/
/-- two values -/
def Op2 (K : PySem.W.Frag) (r : R2) (g : W → W → Store → R W) : Prop :=
  ∀ (c : Cf) (st : Store) (x y : W) (vx vy : V) (w : W) (st' : Store) (Q : VK), StR K c st → Wf c → RepC K c x vx → RepC K c y vy → g x y st = .ok w st' →
    (∀ v c', Ext true c c' st st' → StR K c' st' → Wf c' → RepC K c' w v → Q v c'.H) → r vx vy c.H Q
def bin (g : W → W → Store → R W) (fa fb : Ef) : Ef := fun env st => (fa env st).bind fun x st1 => (fb env st1).bind fun y st2 => g x y st2
section
variable {X : Cx} {m : Bool} {a b : Expr} {fa fb : Ef} {pos : Pos}
theorem Sm.ext {K : PySem.W.Frag} {c c1 : Cf} {env : Env} {st st1 : Store} {σ : L2.St} (S : Sm K c env st σ) (x : Ext m c c1 st st1) (s : StR K c1 st1) (wf : Wf c1) : Sm K ⟨c1.ow, c1.H, c1.ρ⟩ env st1 σ := ⟨x.envR S.e, s, wf⟩
theorem op2 {K : PySem.W.Frag} {r : R2} {g : W → W → Store → R W} (hg : Op2 K r g) : ∀ σ H Q, tEf K m (bin g fa fb) σ H Q → tOp r (tEf K m fa) (tEf K m fb) σ H Q := by
  rintro σ H Q ⟨ow, ρ, env, st, S, w, st', e, q⟩
  obtain ⟨x, st1, e1, e⟩ := R.bind_ok e
  obtain ⟨y, st2, e2, e⟩ := R.bind_ok e
  refine ⟨ow, ρ, env, st, S, x, st1, e1, fun vx c1 x1 s1 w1 r1 => ?_⟩
  refine ⟨c1.ow, c1.ρ, env, st1, S.ext x1 s1 w1, y, st2, e2, fun vy c2 x2 s2 w2 r2 => ?_⟩
  exact hg c2 st2 x y vx vy w st' Q s2 w2 (x2.rep r1) r2 e fun v c' x3 s3 w3 r3 => q v c' ((x1.trans x2).trans x3.any) s3 w3 r3
theorem e_op {op : Operator} {r : R2} {g : W → W → Store → R W} (ho : OpR X (binaryOp op) r) (hg : Op2 X.K r g) (ha : EV m X a fa) (hb : EV m X b fb) : EV m X (.BinOp a op b pos) (bin g fa fb) :=
  ⟨(pe_op ho ha.pe hb.pe).imp (op2 hg)⟩
end

/-! ### names, constants -/
def var_ (i : Nat) : Ef := fun env st => match env[i]? with
  | some (some (.w x)) => .ok x st
  | _ => .no
def cst_ (w : W) : Ef := fun _ st => .ok w st
/-- a slot's own thing, looked at -/
def pk_ (i : Nat) : Pf := fun env _ => match env[i]? with
  | some (some o) => some o
  | _ => none
section
variable {X : Cx} {m : Bool} {pos : Pos}
theorem e_var {i : Nat} {x : Str} (hN : X.N[i]? = some x) (hv : Vis X.env.scope x) (hd : (x == ("__debug__" : Str)) = false := by decide) (hcd : (x == ("__classdict__" : Str)) = false := by decide) : EV m X (.Name x pos) (var_ i) := by
  refine ⟨(pe_var hN hv hd hcd).imp ?_⟩
  rintro σ H Q ⟨ow, ρ, env, st, S, w, st', e, q⟩
  unfold var_ at e
  split at e
  · rename_i y hy
    cases e
    obtain ⟨v, h1, h2⟩ := S.e.at_ i _ hy
    obtain ⟨pk, _⟩ := h2
    cases pk with
    | w r => exact ⟨v, h1, q v ⟨ow, H, ρ⟩ (Ext.refl ..) S.s S.wf r⟩
  · cases e
theorem p_var {i : Nat} {x : Str} (hN : X.N[i]? = some x) (hv : Vis X.env.scope x) (hd : (x == ("__debug__" : Str)) = false := by decide) (hcd : (x == ("__classdict__" : Str)) = false := by decide) : PV X (.Name x pos) (pk_ i) := by
  refine ⟨(pe_var hN hv hd hcd).imp ?_⟩
  rintro σ H Q ⟨ow, ρ, env, st, S, o, e, q⟩
  unfold pk_ at e
  split at e
  · rename_i y hy
    cases e
    obtain ⟨v, h1, h2⟩ := S.e.at_ i _ hy
    exact ⟨v, h1, q v h2.pk⟩
  · cases e
theorem e_cst {e : Expr} {w : W} {v : V} (h : PE X e (tC v)) (r : ∀ H ρ, Rep X.K H ρ w v) : EV m X e (cst_ w) := by
  refine ⟨h.imp ?_⟩
  rintro σ H Q ⟨ow, ρ, env, st, S, w', st', e, q⟩
  cases e
  exact q v ⟨ow, H, ρ⟩ (Ext.refl ..) S.s S.wf (r _ _)
theorem e_int {i : Int} {j} : EV m X (.Constant (.int i) j pos) (cst_ (.int i)) := e_cst pe_int fun _ _ => .int i
theorem e_bl {b : Bool} {j} : EV m X (.Constant (.bool b) j pos) (cst_ (.bl b)) := e_cst pe_bl fun _ _ => .bl b
theorem e_non {j} : EV m X (.Constant .none j pos) (cst_ .non) := e_cst pe_non fun _ _ => .non
theorem e_str {x : Str} {j} (h : PyData.strOk x = true := by decide +kernel) (z : x.length ≤ LIM := by decide +kernel) : EV m X (.Constant (.str x) j pos) (cst_ (.str x)) := e_cst pe_str fun _ _ => .str x h z
end

/-! ### arithmetic -/
def addW : W → W → Store → R W
  | .int a, .int b, st => .ok (.int (a + b)) st
  | .str a, .str b, st => if a.length + b.length ≤ LIM then .ok (.str (a ++ b)) st else .no
  | .tup a, .tup b, st => if a.length + b.length ≤ LIM then .ok (.tup (a ++ b)) st else .no
  | .lst a, .lst b, st => if a.length + b.length ≤ LIM then .ok (.lst (a ++ b)) st else .no
  | _, _, _ => .no
def subW : W → W → Store → R W
  | .int a, .int b, st => .ok (.int (a - b)) st
  | _, _, _ => .no
def small (a : Int) : Bool := decide (-(2 ^ 64) < a ∧ a < 2 ^ 64)
def mulW : W → W → Store → R W
  | .int a, .int b, st => if small a || small b then .ok (.int (a * b)) st else .no
  | .lst a, .int k, st => if a.length * k.toNat ≤ LIM ∧ -(2 ^ 62) ≤ k ∧ k < 2 ^ 62 then .ok (.lst (List.replicate k.toNat a).flatten) st else .no
  | _, _, _ => .no
def divW : W → W → Store → R W
  | .int a, .int b, st => if b ≠ 0 ∧ b.natAbs < 1073741824 then .ok (.int (a.fdiv b)) st else .no
  | _, _, _ => .no
def modW : W → W → Store → R W
  | .int a, .int b, st => if b ≠ 0 then .ok (.int (a.fmod b)) st else .no
  | _, _, _ => .no
def powW : W → W → Store → R W
  | .int a, .int b, st => if 0 ≤ b ∧ b ≤ 1000000 ∧ a.natAbs < 2 ^ 64 then .ok (.int (a ^ b.toNat)) st else .no
  | _, _, _ => .no

theorem strOk_append {x y : Str} (h : PyData.strOk x = true) (h' : PyData.strOk y = true) : PyData.strOk (x ++ y) = true := by
  unfold PyData.strOk at *
  have e : (x ++ y).cps = x.cps ++ y.cps := rfl
  rw [e, Array.all_append, h, h', Bool.and_self]
theorem str_length_append (x y : Str) : (x ++ y).length = x.length + y.length := by
  show (x.cps ++ y.cps).size = _
  rw [Array.size_append]; rfl

section
variable {K : PySem.W.Frag}
theorem o_add : Op2 K (fun x y H Q => rI0 (fun i j => .int (i + j)) x y H Q ∨ (∃ i j, x = .str i ∧ y = .str j ∧ i.length + j.length ≤ sizeLine ∧ Q (.str (i ++ j)) H) ∨ rCatA K x y H Q ∨ rCat x y H Q) addW := by
  intro c st x y vx vy w st' Q s wf rx ry e q
  unfold addW at e
  split at e
  · cases e; cases rx; cases ry
    exact .inl ⟨_, _, rfl, rfl, q _ c (Ext.refl ..) s wf (.int _)⟩
  · split at e <;> cases e
    rename_i hz
    cases rx with
    | str _ o1 z1 =>
      cases ry with
      | str _ o2 z2 =>
        exact .inr (.inl ⟨_, _, rfl, rfl, by rw [lim_eq]; exact hz, q _ c (Ext.refl ..) s wf (.str _ (strOk_append o1 o2) (by rw [str_length_append]; exact hz))⟩)
  · split at e <;> cases e
    rename_i ws ws' _ hz
    cases rx with
    | tup h1 r1 z1 =>
      rename_i a vs
      cases ry with
      | tup h2 r2 z2 =>
        rename_i b us
        have g1 : SqT K c.H a vs := sqT_mono (fun _ _ e => (Cf.of_fz e).2) h1
        have g2 : SqT K c.H b us := sqT_mono (fun _ _ e => (Cf.of_fz e).2) h2
        have l1 := r1.length
        have l2 := r2.length
        refine .inr (.inr (.inl ⟨a, b, vs, us, rfl, rfl, g1, g2, by rw [lim_eq, ← l1, ← l2]; exact hz, fun e0 => ?_, fun e0 e1 => ?_, fun e0 e1 p hp => ?_⟩))
        · subst e0
          cases r1
          exact q _ c (Ext.refl ..) s wf (.tup h2 r2 z2)
        · subst e1
          cases r2
          rw [List.append_nil] at q
          exact q _ c (Ext.refl ..) s wf (.tup h1 r1 z1)
        · obtain ⟨x1, s1, w1, f1⟩ := alloc K st (.tup (vs ++ us)) wf hp
          exact q _ _ x1 (s1 s) w1 (.tup (.inl (.inl f1)) ((x1.repL r1).append (x1.repL r2)) (by rw [List.length_append]; exact hz))
  · split at e <;> cases e
    rename_i ws ws' _ hz
    cases rx with
    | lst h1 r1 z1 =>
      rename_i a vs
      cases ry with
      | lst h2 r2 z2 =>
        rename_i b us
        have l1 := r1.length
        have l2 := r2.length
        refine .inr (.inr (.inr ⟨a, b, vs, us, rfl, rfl, (Cf.of_fz h1).2, (Cf.of_fz h2).2, by rw [lim_eq, ← l1, ← l2]; exact hz, fun p hp => ?_⟩))
        obtain ⟨x1, s1, w1, f1⟩ := alloc K st (.lst (vs ++ us)) wf hp
        exact q _ _ x1 (s1 s) w1 (.lst f1 ((x1.repL r1).append (x1.repL r2)) (by rw [List.length_append]; exact hz))
  · cases e
theorem o_sub : Op2 K (rI0 fun i j => .int (i - j)) subW := by
  intro c st x y vx vy w st' Q s wf rx ry e q
  unfold subW at e
  split at e
  · cases e; cases rx; cases ry
    exact ⟨_, _, rfl, rfl, q _ c (Ext.refl ..) s wf (.int _)⟩
  · cases e
theorem o_div : Op2 K (rI CDivN fun i j => .int (i.fdiv j)) divW := by
  intro c st x y vx vy w st' Q s wf rx ry e q
  unfold divW at e
  split at e
  · split at e <;> cases e
    cases rx; cases ry
    rename_i h
    exact ⟨_, _, rfl, rfl, h, q _ c (Ext.refl ..) s wf (.int _)⟩
  · cases e
theorem o_mod : Op2 K (rI (fun _ j => j ≠ 0) fun i j => .int (i.fmod j)) modW := by
  intro c st x y vx vy w st' Q s wf rx ry e q
  unfold modW at e
  split at e
  · split at e <;> cases e
    cases rx; cases ry
    rename_i h
    exact ⟨_, _, rfl, rfl, h, q _ c (Ext.refl ..) s wf (.int _)⟩
  · cases e
theorem o_pow : Op2 K (rI CPow fun i j => .int (i ^ j.toNat)) powW := by
  intro c st x y vx vy w st' Q s wf rx ry e q
  unfold powW at e
  split at e
  · split at e <;> cases e
    cases rx; cases ry
    rename_i h
    exact ⟨_, _, rfl, rfl, h, q _ c (Ext.refl ..) s wf (.int _)⟩
  · cases e
theorem RepL.rep {H : Hp} {ρ : List Addr} {ws : List W} {vs : List V} (r : RepL K H ρ ws vs) : ∀ n : Nat, RepL K H ρ (List.replicate n ws).flatten (List.replicate n vs).flatten
  | 0 => .nil
  | n + 1 => by
    rw [List.replicate_succ, List.replicate_succ, List.flatten_cons, List.flatten_cons]
    exact r.append (RepL.rep r n)
theorem o_mul : Op2 K (fun x y H Q => rI CMul (fun i j => .int (i * j)) x y H Q ∨ rRep x y H Q) mulW := by
  intro c st x y vx vy w st' Q s wf rx ry e q
  unfold mulW at e
  split at e
  · split at e <;> cases e
    cases rx; cases ry
    rename_i h
    refine .inl ⟨_, _, rfl, rfl, ?_, q _ c (Ext.refl ..) s wf (.int _)⟩
    rcases Bool.or_eq_true_iff.mp h with h | h
    · exact .inl (of_decide_eq_true h)
    · exact .inr (of_decide_eq_true h)
  · split at e <;> cases e
    cases rx with
    | lst h1 r1 z1 =>
      cases ry
      rename_i h a vs
      obtain ⟨hz, k1, k2⟩ := h
      have l1 := r1.length
      refine .inr ⟨a, _, vs, rfl, rfl, (Cf.of_fz h1).2, by omega, by omega, by rw [lim_eq, ← l1]; exact hz, fun p hp => ?_⟩
      obtain ⟨x1, s1, w1, f1⟩ := alloc K st (.lst (List.replicate _ vs).flatten) wf hp
      refine q _ _ x1 (s1 s) w1 (.lst f1 ((x1.repL r1).rep _) ?_)
      rw [List.length_flatten, List.map_replicate, List.sum_replicate_nat, Nat.mul_comm]
      exact hz
  · cases e
end
section
variable {X : Cx} {m : Bool} {a b : Expr} {fa fb : Ef} {pos : Pos}
theorem e_add (ha : EV m X a fa) (hb : EV m X b fb) : EV m X (.BinOp a .Add b pos) (bin addW fa fb) := e_op (op_add.or (op_add_str.or (op_catA.or op_cat))) o_add ha hb
theorem e_sub (ha : EV m X a fa) (hb : EV m X b fb) : EV m X (.BinOp a .Sub b pos) (bin subW fa fb) := e_op op_sub o_sub ha hb
theorem e_mul (ha : EV m X a fa) (hb : EV m X b fb) : EV m X (.BinOp a .Mult b pos) (bin mulW fa fb) := e_op (op_mul.or op_rep) o_mul ha hb
theorem e_div (ha : EV m X a fa) (hb : EV m X b fb) : EV m X (.BinOp a .FloorDiv b pos) (bin divW fa fb) := e_op op_fdivN o_div ha hb
theorem e_mod (ha : EV m X a fa) (hb : EV m X b fb) : EV m X (.BinOp a .Mod b pos) (bin modW fa fb) := e_op op_modN o_mod ha hb
theorem e_pow (ha : EV m X a fa) (hb : EV m X b fb) : EV m X (.BinOp a .Pow b pos) (bin powW fa fb) := e_op op_pow o_pow ha hb
def neg_ (fa : Ef) : Ef := fun env st => (fa env st).bind fun x st1 => match x with
  | .int i => .ok (.int (-i)) st1
  | _ => .no
theorem e_neg (ha : EV m X a fa) : EV m X (.UnaryOp .USub a pos) (neg_ fa) := by
  refine ⟨(pe_un un_neg ha.pe).imp ?_⟩
  rintro σ H Q ⟨ow, ρ, env, st, S, w, st', e, q⟩
  obtain ⟨x, st1, e1, e⟩ := R.bind_ok e
  refine ⟨ow, ρ, env, st, S, x, st1, e1, fun vx c1 x1 s1 w1 r1 => ?_⟩
  split at e
  · cases e
    cases r1
    exact ⟨_, rfl, q _ c1 x1 s1 w1 (.int _)⟩
  · cases e
end
end Cr
/-! Cr3: things looked at; comparisons, tests, subscripts, slices, displays. -/
namespace Cr
open PySem PySem.Spec PyProof.Rows L2

/-- the content of a slot's thing -/
def O.view : O → W
  | .w x => x
  | .ol xs => .lst xs
  | .od kvs => .dct kvs
  | .ot kvs => .dtt kvs
  | .oll _ => .ref 0
/-- what may be read -/
inductive View (K : PySem.W.Frag) (c : Cf) : W → V → Prop
  | of {w : W} {v : V} : RepC K c w v → View K c w v
  | lst {a : Addr} {ws : List W} {vs : List V} : c.H a = some (.lst vs) → RepLC K c ws vs → ws.length ≤ LIM → View K c (.lst ws) (.ref a)
  | dct {a : Addr} {ws : List (Key × W)} {vs : List (Key × V)} : c.H a = some (.dK vs) → RepD K c.fz c.ρ ws vs → ws.length ≤ LIM → View K c (.dct ws) (.ref a)
  | dtt {a : Addr} {ws : List (List Key × W)} {vs : List (List Key × V)} : c.H a = some (.dT vs) → RepT K c.fz c.ρ ws vs → ws.length ≤ LIM → View K c (.dtt ws) (.ref a)
theorem Pk.view {K : PySem.W.Frag} {c : Cf} {o : O} {v : V} (h : Pk K c o v) : View K c o.view v := by
  cases h with
  | w r => exact .of r
  | ol e r z => exact .lst e r z
  | od e r z => exact .dct e r z
  | ot e r z => exact .dtt e r z
section
variable {K : PySem.W.Frag} {c : Cf}
theorem fz_sub {c : Cf} : ∀ a o, c.fz a = some o → c.H a = some o := fun _ _ e => (Cf.of_fz e).2
theorem View.asL {ws : List W} {v : V} (h : View K c (.lst ws) v) : ∃ a vs, v = .ref a ∧ c.H a = some (.lst vs) ∧ RepLC K c ws vs ∧ ws.length ≤ LIM := by
  cases h with
  | of r => cases r with
    | lst e r z => exact ⟨_, _, rfl, fz_sub _ _ e, r, z⟩
  | lst e r z => exact ⟨_, _, rfl, e, r, z⟩
theorem View.asT {ws : List W} {v : V} (h : View K c (.tup ws) v) : ∃ a vs, v = .ref a ∧ SqT K c.H a vs ∧ RepLC K c ws vs ∧ ws.length ≤ LIM ∧ RepC K c (.tup ws) v := by
  cases h with
  | of r => cases r with
    | tup e r z => exact ⟨_, _, rfl, sqT_mono fz_sub e, r, z, .tup e r z⟩
theorem View.asD {ws : List (Key × W)} {v : V} (h : View K c (.dct ws) v) : ∃ a vs, v = .ref a ∧ Rd c.H a (.dK vs) ∧ RepD K c.fz c.ρ ws vs ∧ ws.length ≤ LIM := by
  cases h with
  | of r => cases r with
    | dct e r z => exact ⟨_, _, rfl, .inr ⟨_, fz_sub _ _ e⟩, r, z⟩
  | dct e r z => exact ⟨_, _, rfl, .inl e, r, z⟩
theorem View.asDT {ws : List (List Key × W)} {v : V} (h : View K c (.dtt ws) v) : ∃ a vs, v = .ref a ∧ Rd c.H a (.dT vs) ∧ RepT K c.fz c.ρ ws vs ∧ ws.length ≤ LIM := by
  cases h with
  | of r => cases r with
    | dtt e r z => exact ⟨_, _, rfl, .inr ⟨_, fz_sub _ _ e⟩, r, z⟩
  | dtt e r z => exact ⟨_, _, rfl, .inl e, r, z⟩
theorem View.asS {x : Str} {v : V} (h : View K c (.str x) v) : v = .str x ∧ PyData.strOk x = true ∧ x.length ≤ LIM := by
  cases h with
  | of r => cases r with
    | str _ a b => exact ⟨rfl, a, b⟩
theorem View.asI {x : Int} {v : V} (h : View K c (.int x) v) : v = .int x := by
  cases h with
  | of r => cases r; rfl
theorem View.asB {x : Bool} {v : V} (h : View K c (.bl x) v) : v = .bl x := by
  cases h with
  | of r => cases r; rfl
theorem View.asN {v : V} (h : View K c .non v) : v = .non := by
  cases h with
  | of r => cases r; rfl
theorem View.asR {n : Nat} {v : V} (h : View K c (.ref n) v) : ∃ a, v = .ref a ∧ c.ρ[n]? = some a := by
  cases h with
  | of r => cases r with
    | ref e => exact ⟨_, rfl, e⟩
end

/-! ### the judgement -/
/-- a thing that is looked at; it stays while m2's runs go on -/
def tOf (K : PySem.W.Frag) (m m2 : Bool) (f : Ef) : TE := fun σ H Q => ∃ ow ρ env st, Sm K ⟨ow, H, ρ⟩ env st σ ∧ ∃ w st', f env st = .ok w st' ∧
  ∀ v c', Ext m ⟨ow, H, ρ⟩ c' st st' → StR K c' st' → Wf c' → View K c' w v → (∀ c2 st2, Ext m2 c' c2 st' st2 → View K c2 w v) → Q v c'.H
structure OV (m m2 : Bool) (X : Cx) (e : Expr) (f : Ef) : Prop where
  pe : PE X e (tOf X.K m m2 f)
section
variable {X : Cx} {m m2 : Bool} {e : Expr} {f : Ef} {pos : Pos}
theorem o_e (h : EV m X e f) : OV m m2 X e f := by
  refine ⟨h.pe.imp ?_⟩
  rintro σ H Q ⟨ow, ρ, env, st, S, w, st', e, q⟩
  exact ⟨ow, ρ, env, st, S, w, st', e, fun v c' x s wf r => q v c' x s wf (.of r) fun c2 st2 y => .of (y.rep r)⟩
/-- the thing at a slot -/
def look_ (i : Nat) : Ef := fun env st => match env[i]? with
  | some (some o) => .ok o.view st
  | _ => .no
theorem o_var {i : Nat} {x : Str} (hN : X.N[i]? = some x) (hv : Vis X.env.scope x) (hd : (x == ("__debug__" : Str)) = false := by decide) (hcd : (x == ("__classdict__" : Str)) = false := by decide) : OV m m2 X (.Name x pos) (look_ i) := by
  refine ⟨(pe_var hN hv hd hcd).imp ?_⟩
  rintro σ H Q ⟨ow, ρ, env, st, S, w, st', e, q⟩
  unfold look_ at e
  split at e
  · rename_i y hy
    cases e
    obtain ⟨v, h1, h2⟩ := S.e.at_ i _ hy
    exact ⟨v, h1, q v ⟨ow, H, ρ⟩ (Ext.refl ..) S.s S.wf h2.pk.view fun c2 st2 x => (h2.keep x.frz x.loc fun a e => x.own a _ e rfl).pk.view⟩
  · cases e
end

/-! ### operators over things looked at -/
def Ov2 (K : PySem.W.Frag) (r : R2) (g : W → W → Store → R W) : Prop :=
  ∀ (c : Cf) (st : Store) (x y : W) (vx vy : V) (w : W) (st' : Store) (Q : VK), StR K c st → Wf c → View K c x vx → View K c y vy → g x y st = .ok w st' →
    (∀ v c', Ext true c c' st st' → StR K c' st' → Wf c' → RepC K c' w v → Q v c'.H) → r vx vy c.H Q
section
variable {X : Cx} {m : Bool} {a b : Expr} {fa fb : Ef} {pos : Pos}
theorem ov2 {K : PySem.W.Frag} {r : R2} {g : W → W → Store → R W} (hg : Ov2 K r g) : ∀ σ H Q, tEf K m (bin g fa fb) σ H Q → tOp r (tOf K m m fa) (tOf K m true fb) σ H Q := by
  rintro σ H Q ⟨ow, ρ, env, st, S, w, st', e, q⟩
  obtain ⟨x, st1, e1, e⟩ := R.bind_ok e
  obtain ⟨y, st2, e2, e⟩ := R.bind_ok e
  refine ⟨ow, ρ, env, st, S, x, st1, e1, fun vx c1 x1 s1 w1 r1 k1 => ?_⟩
  refine ⟨c1.ow, c1.ρ, env, st1, S.ext x1 s1 w1, y, st2, e2, fun vy c2 x2 s2 w2 r2 _ => ?_⟩
  exact hg c2 st2 x y vx vy w st' Q s2 w2 (k1 _ _ x2) r2 e fun v c' x3 s3 w3 r3 => q v c' ((x1.trans x2).trans x3.any) s3 w3 r3
end

/-! ### data -/
mutual
def W.py : W → PyData
  | .non => .none
  | .bl b => .bool b
  | .int i => .int i
  | .str x => .str x
  | .tup xs => .tuple (W.pyL xs)
  | .lst xs => .list (W.pyL xs)
  | .dct _ => .dict []
  | .dtt _ => .dict []
  | .ref _ => .dict []
  | .scr _ => .dict []
def W.pyL : List W → List PyData
  | [] => []
  | x :: xs => W.py x :: W.pyL xs
end
/-- plain data, at most so deep -/
def W.fit : Nat → W → Bool
  | _, .non => true
  | _, .bl _ => true
  | _, .int _ => true
  | _, .str _ => true
  | n + 1, .tup xs => xs.all (W.fit n)
  | n + 1, .lst xs => xs.all (W.fit n)
  | _, _ => false
theorem pyL_map : ∀ xs : List W, W.pyL xs = xs.map W.py
  | [] => by simp [W.pyL]
  | x :: xs => by simp [W.pyL, pyL_map xs]
section
variable {K : PySem.W.Frag} {H : Hp} {ρ : List Addr}
mutual
theorem Rep.dp (n : Nat) : ∀ {w : W} {v : V}, Rep K H ρ w v → w.fit n = true → Dp K H v w.py ∧ w.py.canLay0 = true ∧ w.py.depth ≤ n
  | _, _, .non, _ => by unfold W.py; exact ⟨.non, by simp [PyData.canLay0], by simp [PyData.depth]⟩
  | _, _, .bl b, _ => by unfold W.py; exact ⟨.bl b, by simp [PyData.canLay0], by simp [PyData.depth]⟩
  | _, _, .int i, _ => by unfold W.py; exact ⟨.int i, by simp [PyData.canLay0], by simp [PyData.depth]⟩
  | _, _, .str x o z, _ => by unfold W.py; exact ⟨.str x, by simpa [PyData.canLay0] using o, by simp [PyData.depth]⟩
  | _, _, .tup q r z, f => by
    cases n with
    | zero => simp [W.fit] at f
    | succ n =>
      unfold W.py
      obtain ⟨d, l, k⟩ := RepL.dp n r (by simpa only [W.fit] using f)
      exact ⟨.tup q d, by simpa only [PyData.canLay0] using l, by simp only [PyData.depth]; omega⟩
  | _, _, .lst q r z, f => by
    cases n with
    | zero => simp [W.fit] at f
    | succ n =>
      unfold W.py
      obtain ⟨d, l, k⟩ := RepL.dp n r (by simpa only [W.fit] using f)
      exact ⟨.lst (SqL.of q) d, by simpa only [PyData.canLay0] using l, by simp only [PyData.depth]; omega⟩
  | _, _, .dct _ _ _, f => by cases n <;> simp [W.fit] at f
  | _, _, .dtt _ _ _, f => by cases n <;> simp [W.fit] at f
  | _, _, .ref _, f => by cases n <;> simp [W.fit] at f
  | _, _, .scr _ _, f => by cases n <;> simp [W.fit] at f
theorem RepL.dp (n : Nat) : ∀ {ws : List W} {vs : List V}, RepL K H ρ ws vs → ws.all (W.fit n) = true → DpAll K H vs (W.pyL ws) ∧ PyData.canLayAll0 (W.pyL ws) = true ∧ PyData.depthAll (W.pyL ws) ≤ n
  | _, _, .nil, _ => by unfold W.pyL; exact ⟨.nil, by simp [PyData.canLayAll0], by simp [PyData.depthAll]⟩
  | _, _, .cons q r, f => by
    rw [List.all_cons, Bool.and_eq_true] at f
    obtain ⟨d1, l1, k1⟩ := Rep.dp n q f.1
    obtain ⟨d2, l2, k2⟩ := RepL.dp n r f.2
    unfold W.pyL
    exact ⟨.cons d1 d2, by simp [PyData.canLayAll0, l1, l2], by simp only [PyData.depthAll]; omega⟩
end
end
theorem View.dp {K : PySem.W.Frag} {c : Cf} {w : W} {v : V} (h : View K c w v) (f : w.fit 60 = true) : Dp K c.H v w.py ∧ SeqAt.shaped w.py = true := by
  have sh : ∀ d : PyData, d.canLay0 = true → d.depth ≤ 60 → SeqAt.shaped d = true := fun d h1 h2 => by
    unfold SeqAt.shaped
    rw [h1, Bool.true_and]
    exact decide_eq_true (by omega)
  cases h with
  | of r =>
    obtain ⟨d, l, k⟩ := Rep.dp 60 (Rep.mono (ρ' := c.ρ) fz_sub (fun _ _ e => e) r) f
    exact ⟨d, sh _ l k⟩
  | lst e r z =>
    obtain ⟨d, l, k⟩ := RepL.dp 59 (RepL.mono (ρ' := c.ρ) fz_sub (fun _ _ e => e) r) (by simpa only [W.fit] using f)
    unfold W.py
    exact ⟨.lst (SqL.of e) d, sh _ (by simpa only [PyData.canLay0] using l) (by simp only [PyData.depth]; omega)⟩
  | dct e r z => simp [W.fit] at f
  | dtt e r z => simp [W.fit] at f

/-! ### comparisons -/
def eqW : W → W → Store → R W := fun x y st => if x.fit 60 && y.fit 60 then .ok (.bl (PyData.eqv x.py y.py)) st else .no
def neW : W → W → Store → R W := fun x y st => if x.fit 60 && y.fit 60 then .ok (.bl (!PyData.eqv x.py y.py)) st else .no
def ltW : W → W → Store → R W
  | .int a, .int b, st => .ok (.bl (decide (a < b))) st
  | _, _, _ => .no
def leW : W → W → Store → R W
  | .int a, .int b, st => .ok (.bl (decide (a ≤ b))) st
  | _, _, _ => .no
def gtW : W → W → Store → R W
  | .int a, .int b, st => .ok (.bl (decide (b < a))) st
  | _, _, _ => .no
def geW : W → W → Store → R W
  | .int a, .int b, st => .ok (.bl (decide (b ≤ a))) st
  | _, _, _ => .no
def W.isNon : W → Bool
  | .non => true
  | _ => false
def isW : W → W → Store → R W
  | x, .non, st => .ok (.bl x.isNon) st
  | .bl a, .bl b, st => .ok (.bl (decide (a = b))) st
  | _, _, _ => .no
def isnW : W → W → Store → R W
  | x, .non, st => .ok (.bl (!x.isNon)) st
  | .bl a, .bl b, st => .ok (.bl (!decide (a = b))) st
  | _, _, _ => .no
/-- the value at a key -/
def getW {κ : Type} [DecidableEq κ] (kvs : List (κ × W)) (k : κ) : Option W := (kvs.find? fun kv => decide (kv.1 = k)).map (·.2)
def putW {κ : Type} [DecidableEq κ] (kvs : List (κ × W)) (k : κ) (v : W) : List (κ × W) :=
  if (kvs.any fun kv => decide (kv.1 = k)) = true then kvs.map (fun kv => if kv.1 = k then (kv.1, v) else kv) else kvs ++ [(k, v)]
def W.key : W → Option Key
  | .int i => some (.inl i)
  | .str x => some (.inr x)
  | _ => none
/-- x in y -/
def inB : W → W → Option Bool
  | x, .tup ys => if x.fit 59 && ys.all (W.fit 59) then some (ys.any fun z => PyData.eqv z.py x.py) else none
  | x, .lst ys => if x.fit 59 && ys.all (W.fit 59) then some (ys.any fun z => PyData.eqv z.py x.py) else none
  | x, .dct kvs => (x.key).map fun k => (getW kvs k).isSome
  | .str x, .str y => match x.cps.toList with
    | [c] => some (decide (c ∈ y.cps.toList))
    | _ => none
  | _, _ => none
def inW : W → W → Store → R W := fun x y st => match inB x y with
  | some b => .ok (.bl b) st
  | none => .no
def ninW : W → W → Store → R W := fun x y st => match inB x y with
  | some b => .ok (.bl (!b)) st
  | none => .no
section
variable {K : PySem.W.Frag}
theorem v_eq : Ov2 K (rEqD K) eqW := by
  intro c st x y vx vy w st' Q s wf rx ry e q
  unfold eqW at e
  split at e
  · rename_i h
    rw [Bool.and_eq_true] at h
    cases e
    obtain ⟨d1, s1⟩ := rx.dp h.1
    obtain ⟨d2, s2⟩ := ry.dp h.2
    exact ⟨_, _, d1, d2, s1, s2, q _ c (Ext.refl ..) s wf (.bl _)⟩
  · cases e
theorem v_ne : Ov2 K (rNeD K) neW := by
  intro c st x y vx vy w st' Q s wf rx ry e q
  unfold neW at e
  split at e
  · rename_i h
    rw [Bool.and_eq_true] at h
    cases e
    obtain ⟨d1, s1⟩ := rx.dp h.1
    obtain ⟨d2, s2⟩ := ry.dp h.2
    exact ⟨_, _, d1, d2, s1, s2, q _ c (Ext.refl ..) s wf (.bl _)⟩
  · cases e
theorem v_lt : Ov2 K (rI0 fun i j => .bl (decide (i < j))) ltW := by
  intro c st x y vx vy w st' Q s wf rx ry e q
  unfold ltW at e
  split at e
  · cases e
    exact ⟨_, _, rx.asI, ry.asI, q _ c (Ext.refl ..) s wf (.bl _)⟩
  · cases e
theorem v_le : Ov2 K (rI0 fun i j => .bl (decide (i ≤ j))) leW := by
  intro c st x y vx vy w st' Q s wf rx ry e q
  unfold leW at e
  split at e
  · cases e
    exact ⟨_, _, rx.asI, ry.asI, q _ c (Ext.refl ..) s wf (.bl _)⟩
  · cases e
theorem v_gt : Ov2 K (rI0 fun i j => .bl (decide (j < i))) gtW := by
  intro c st x y vx vy w st' Q s wf rx ry e q
  unfold gtW at e
  split at e
  · cases e
    exact ⟨_, _, rx.asI, ry.asI, q _ c (Ext.refl ..) s wf (.bl _)⟩
  · cases e
theorem v_ge : Ov2 K (rI0 fun i j => .bl (decide (j ≤ i))) geW := by
  intro c st x y vx vy w st' Q s wf rx ry e q
  unfold geW at e
  split at e
  · cases e
    exact ⟨_, _, rx.asI, ry.asI, q _ c (Ext.refl ..) s wf (.bl _)⟩
  · cases e
theorem View.isNon {c : Cf} {w : W} {v : V} (h : View K c w v) : decide (v = V.non) = w.isNon := by
  cases h with
  | of r => cases r <;> rfl
  | lst => rfl
  | dct => rfl
  | dtt => rfl
theorem v_is : Ov2 K (fun x y H Q => (y = .non ∧ Q (.bl (decide (x = .non))) H) ∨ rIsB x y H Q) isW := by
  intro c st x y vx vy w st' Q s wf rx ry e q
  unfold isW at e
  split at e
  · cases e
    refine .inl ⟨ry.asN, ?_⟩
    rw [rx.isNon]
    exact q _ c (Ext.refl ..) s wf (.bl _)
  · cases e
    exact .inr ⟨_, _, rx.asB, ry.asB, q _ c (Ext.refl ..) s wf (.bl _)⟩
  · cases e
theorem v_isn : Ov2 K (fun x y H Q => (y = .non ∧ Q (.bl (!decide (x = .non))) H) ∨ rNotB x y H Q) isnW := by
  intro c st x y vx vy w st' Q s wf rx ry e q
  unfold isnW at e
  split at e
  · cases e
    refine .inl ⟨ry.asN, ?_⟩
    rw [rx.isNon]
    exact q _ c (Ext.refl ..) s wf (.bl _)
  · cases e
    exact .inr ⟨_, _, rx.asB, ry.asB, q _ c (Ext.refl ..) s wf (.bl _)⟩
  · cases e
end
end Cr
/-! Cr4: in, subscripts, slices, tests, displays. -/
namespace Cr
open PySem PySem.Spec PyProof.Rows L2

/-! ### dicts -/
section
variable {K : PySem.W.Frag} {H : Hp} {ρ : List Addr}
theorem getW_nil {κ : Type} [DecidableEq κ] {k : κ} : getW ([] : List (κ × W)) k = none := rfl
theorem getW_pos {κ : Type} [DecidableEq κ] {p : κ × W} {r : List (κ × W)} {k : κ} (e : p.1 = k) : getW (p :: r) k = some p.2 := by simp [getW, List.find?_cons, e]
theorem getW_neg {κ : Type} [DecidableEq κ] {p : κ × W} {r : List (κ × W)} {k : κ} (e : ¬ p.1 = k) : getW (p :: r) k = getW r k := by simp [getW, List.find?_cons, e]
theorem RepD.get (k : Key) : ∀ {ws : List (Key × W)} {vs : List (Key × V)}, RepD K H ρ ws vs → (∀ w, getW ws k = some w → ∃ v, valV vs k = some v ∧ Rep K H ρ w v) ∧ (getW ws k = none → valV vs k = none)
  | _, _, .nil => ⟨fun w e => (nomatch (show none = some w from e)), fun _ => rfl⟩
  | _, _, .cons (k := k0) (w := w0) (v := v0) q r => by
    by_cases e : k0 = k
    · rw [getW_pos (p := (k0, w0)) e, valV_pos (p := (k0, v0)) e]
      exact ⟨fun w h => ⟨_, rfl, by cases h; exact q⟩, fun h => nomatch h⟩
    · rw [getW_neg (p := (k0, w0)) e, valV_neg (p := (k0, v0)) e]
      exact RepD.get k r
theorem RepD.isSome (k : Key) {ws : List (Key × W)} {vs : List (Key × V)} (r : RepD K H ρ ws vs) : (valV vs k).isSome = (getW ws k).isSome := by
  obtain ⟨h1, h2⟩ := r.get k
  cases e : getW ws k with
  | none => rw [h2 e] <;> rfl
  | some w => obtain ⟨v, e2, _⟩ := h1 w e; rw [e2] <;> rfl
theorem RepD.length : ∀ {ws : List (Key × W)} {vs : List (Key × V)}, RepD K H ρ ws vs → ws.length = vs.length
  | _, _, .nil => rfl
  | _, _, .cons _ r => by simp [RepD.length r]
theorem RepD.any (k : Key) : ∀ {ws : List (Key × W)} {vs : List (Key × V)}, RepD K H ρ ws vs → (ws.any fun kv => decide (kv.1 = k)) = (vs.any fun kv => decide (kv.1 = k))
  | _, _, .nil => rfl
  | _, _, .cons _ r => by simp [RepD.any k r]
theorem RepD.map (k : Key) {w : W} {v : V} (q : Rep K H ρ w v) : ∀ {ws : List (Key × W)} {vs : List (Key × V)}, RepD K H ρ ws vs → RepD K H ρ (ws.map fun kv => if kv.1 = k then (kv.1, w) else kv) (vs.map fun kv => if kv.1 = k then (kv.1, v) else kv)
  | _, _, .nil => .nil
  | _, _, .cons (k := k0) p r => by
    rw [List.map_cons, List.map_cons]
    by_cases e : k0 = k
    · simp only [e, if_true]; exact .cons q (RepD.map k q r)
    · simp only [e, if_false]; exact .cons p (RepD.map k q r)
theorem RepD.append : ∀ {ws ws' : List (Key × W)} {vs vs' : List (Key × V)}, RepD K H ρ ws vs → RepD K H ρ ws' vs' → RepD K H ρ (ws ++ ws') (vs ++ vs')
  | _, _, _, _, .nil, s => s
  | _, _, _, _, .cons q r, s => .cons q (RepD.append r s)
theorem RepD.put (k : Key) {w : W} {v : V} (q : Rep K H ρ w v) {ws : List (Key × W)} {vs : List (Key × V)} (r : RepD K H ρ ws vs) : RepD K H ρ (putW ws k w) (putK vs k v) := by
  unfold putW putK
  rw [r.any k]
  split
  · exact r.map k q
  · exact r.append (.cons q .nil)
theorem putW_length (k : Key) (w : W) (ws : List (Key × W)) : (putW ws k w).length ≤ ws.length + 1 := by
  unfold putW
  split
  · rw [List.length_map]; omega
  · rw [List.length_append]; exact Nat.le_refl _
end

/-! ### in -/
section
variable {X : Cx}
def rInT (K : PySem.W.Frag) : R2 := fun x y H Q => ∃ d ds, Dp K H x d ∧ Dp K H y (.tuple ds) ∧ SeqAt.shaped d = true ∧ SeqAt.shaped (.tuple ds) = true ∧ Q (.bl (ds.any fun z => PyData.eqv z d)) H
def rNotInT (K : PySem.W.Frag) : R2 := fun x y H Q => ∃ d ds, Dp K H x d ∧ Dp K H y (.tuple ds) ∧ SeqAt.shaped d = true ∧ SeqAt.shaped (.tuple ds) = true ∧ Q (.bl (!ds.any fun z => PyData.eqv z d)) H
theorem op_inT (hu : X.A.units + 65 < cLine) : OpR X (compareOp .In) (rInT X.K) := by
  intro pins s σ H x y v u Q I rx ry h
  obtain ⟨d, ds, hd, he, sd, se, q⟩ := h
  obtain ⟨as, r1⟩ := Dp.reads I d x v hd rx
  obtain ⟨bs, r2⟩ := Dp.reads I (.tuple ds) y u he ry
  exact SeqAt.in_tuple_reads r2 r1 (SeqAt.canLay_of_shaped se) (SeqAt.canLay_of_shaped sd) (room_in_shaped sd hu) ⟨.bl _, H, I, rfl, q⟩
theorem op_notInT (hu : X.A.units + 65 < cLine) : OpR X (compareOp .NotIn) (rNotInT X.K) := by
  intro pins s σ H x y v u Q I rx ry h
  obtain ⟨d, ds, hd, he, sd, se, q⟩ := h
  obtain ⟨as, r1⟩ := Dp.reads I d x v hd rx
  obtain ⟨bs, r2⟩ := Dp.reads I (.tuple ds) y u he ry
  exact SeqAt.notIn_tuple_reads r2 r1 (SeqAt.canLay_of_shaped se) (SeqAt.canLay_of_shaped sd) (room_in_shaped sd hu) ⟨.bl _, H, I, rfl, q⟩
def rInDi (neg : Bool) : R2 := fun x y H Q => ∃ a o, y = .ref a ∧ DGet H a x o ∧ Q (.bl (if neg then !o.isSome else o.isSome)) H
theorem op_inDi (hu : X.A.units + 1 < cLine) : OpR X (compareOp .In) (rInDi false) := by
  intro pins s σ H x y v u Q I rx ry ⟨a, o, ey, g, q⟩
  subst ey
  cases ry
  exact d_in hu I g rx fun s' I' => ⟨.bl o.isSome, H, I', rfl, q⟩
theorem op_notInDi (hu : X.A.units + 1 < cLine) : OpR X (compareOp .NotIn) (rInDi true) := by
  intro pins s σ H x y v u Q I rx ry ⟨a, o, ey, g, q⟩
  subst ey
  cases ry
  exact d_notIn hu I g rx fun s' I' => ⟨.bl (!o.isSome), H, I', rfl, q⟩
abbrev rInAll (K : PySem.W.Frag) : R2 := fun x y H Q => rInT K x y H Q ∨ rInD K x y H Q ∨ rInDi false x y H Q ∨ (∃ (c : Nat) (z : Str), x = .str ⟨#[c]⟩ ∧ y = .str z ∧ Q (.bl (decide (c ∈ z.cps.toList))) H)
abbrev rNinAll (K : PySem.W.Frag) : R2 := fun x y H Q => rNotInT K x y H Q ∨ rNotInD K x y H Q ∨ rInDi true x y H Q ∨ (∃ (c : Nat) (z : Str), x = .str ⟨#[c]⟩ ∧ y = .str z ∧ Q (.bl (!decide (c ∈ z.cps.toList))) H)
theorem op_inAll (hu : X.A.units + 65 < cLine) : OpR X (compareOp .In) (rInAll X.K) := (op_inT hu).or ((op_inD hu).or ((op_inDi (by omega)).or op_in_sign))
theorem op_ninAll (hu : X.A.units + 65 < cLine) : OpR X (compareOp .NotIn) (rNinAll X.K) := (op_notInT hu).or ((op_notInD hu).or ((op_notInDi (by omega)).or op_notIn_sign))
end
theorem any_pyL (x : PyData) (ys : List W) : (W.pyL ys).any (fun z => PyData.eqv z x) = ys.any fun z => PyData.eqv z.py x := by
  rw [pyL_map, List.any_map]; rfl
theorem fit_tup {ys : List W} (f : ys.all (W.fit 59) = true) : W.fit 60 (.tup ys) = true := by simpa only [W.fit] using f
theorem fit_lst {ys : List W} (f : ys.all (W.fit 59) = true) : W.fit 60 (.lst ys) = true := by simpa only [W.fit] using f
mutual
theorem fit_succ : ∀ (n : Nat) (w : W), w.fit n = true → w.fit (n + 1) = true
  | n, .non, _ => by simp [W.fit]
  | n, .bl _, _ => by simp [W.fit]
  | n, .int _, _ => by simp [W.fit]
  | n, .str _, _ => by simp [W.fit]
  | 0, .tup _, h => by simp [W.fit] at h
  | 0, .lst _, h => by simp [W.fit] at h
  | n + 1, .tup xs, h => by
    simp only [W.fit] at h ⊢
    exact fit_succL n xs h
  | n + 1, .lst xs, h => by
    simp only [W.fit] at h ⊢
    exact fit_succL n xs h
  | n, .dct _, h => by cases n <;> simp [W.fit] at h
  | n, .dtt _, h => by cases n <;> simp [W.fit] at h
  | n, .ref _, h => by cases n <;> simp [W.fit] at h
  | n, .scr _, h => by cases n <;> simp [W.fit] at h
theorem fit_succL : ∀ (n : Nat) (ws : List W), ws.all (W.fit n) = true → ws.all (W.fit (n + 1)) = true
  | _, [], _ => rfl
  | n, w :: ws, h => by
    rw [List.all_cons, Bool.and_eq_true] at h ⊢
    exact ⟨fit_succ n w h.1, fit_succL n ws h.2⟩
end
theorem one_sign {x : Str} {c : Nat} (h : x.cps.toList = [c]) : x = ⟨#[c]⟩ := by
  obtain ⟨a⟩ := x
  obtain ⟨l⟩ := a
  simp only at h
  subst h
  rfl
section
variable {K : PySem.W.Frag}
theorem v_inGen (neg : Bool) {c : Cf} {st : Store} {x y : W} {vx vy : V} {b : Bool} {Q : VK} (s : StR K c st) (wf : Wf c) (rx : View K c x vx) (ry : View K c y vy) (e : inB x y = some b)
    (q : ∀ v c', Ext true c c' st st → StR K c' st → Wf c' → RepC K c' (.bl (if neg then !b else b)) v → Q v c'.H) :
    (∃ d ds, Dp K c.H vx d ∧ Dp K c.H vy (.tuple ds) ∧ SeqAt.shaped d = true ∧ SeqAt.shaped (.tuple ds) = true ∧ Q (.bl (if neg then !(ds.any fun z => PyData.eqv z d) else ds.any fun z => PyData.eqv z d)) c.H) ∨
    (∃ d ds, Dp K c.H vx d ∧ Dp K c.H vy (.list ds) ∧ SeqAt.shaped d = true ∧ SeqAt.shaped (.list ds) = true ∧ Q (.bl (if neg then !(ds.any fun z => PyData.eqv z d) else ds.any fun z => PyData.eqv z d)) c.H) ∨
    rInDi neg vx vy c.H Q ∨ ∃ (k : Nat) (z : Str), vx = .str ⟨#[k]⟩ ∧ vy = .str z ∧ Q (.bl (if neg then !decide (k ∈ z.cps.toList) else decide (k ∈ z.cps.toList))) c.H := by
  have fin : Q (.bl (if neg then !b else b)) c.H := q _ c (Ext.refl ..) s wf (.bl _)
  unfold inB at e
  split at e
  · split at e <;> cases e
    rename_i h
    rw [Bool.and_eq_true] at h
    obtain ⟨d1, s1⟩ := rx.dp (fit_succ _ _ h.1)
    obtain ⟨d2, s2⟩ := ry.dp (fit_tup h.2)
    unfold W.py at d2 s2
    exact .inl ⟨_, _, d1, d2, s1, s2, by rw [any_pyL]; exact fin⟩
  · split at e <;> cases e
    rename_i h
    rw [Bool.and_eq_true] at h
    obtain ⟨d1, s1⟩ := rx.dp (fit_succ _ _ h.1)
    obtain ⟨d2, s2⟩ := ry.dp (fit_lst h.2)
    unfold W.py at d2 s2
    exact .inr (.inl ⟨_, _, d1, d2, s1, s2, by rw [any_pyL]; exact fin⟩)
  · obtain ⟨a, vs, rfl, h1, r, z⟩ := ry.asD
    refine .inr (.inr (.inl ?_))
    cases x with
    | int i => cases e; exact ⟨a, _, rfl, .inl ⟨vs, .inl i, h1, rx.asI, rfl⟩, by rw [r.isSome]; exact fin⟩
    | str i => cases e; exact ⟨a, _, rfl, .inl ⟨vs, .inr i, h1, rx.asS.1, rfl⟩, by rw [r.isSome]; exact fin⟩
    | _ => cases e
  · split at e <;> cases e
    rename_i h
    obtain ⟨h1, h2, h3⟩ := rx.asS
    rw [one_sign h] at h1
    exact .inr (.inr (.inr ⟨_, _, h1, ry.asS.1, fin⟩))
  · cases e
theorem v_in : Ov2 K (rInAll K) inW := by
  intro c st x y vx vy w st' Q s wf rx ry e q
  unfold inW at e
  split at e <;> cases e
  rename_i h
  exact v_inGen false s wf rx ry h q
theorem v_nin : Ov2 K (rNinAll K) ninW := by
  intro c st x y vx vy w st' Q s wf rx ry e q
  unfold ninW at e
  split at e <;> cases e
  rename_i h
  exact v_inGen true s wf rx ry h q
end

/-! ### comparisons as values, as tests -/
def tst_ (f : Ef) : Tf := fun env st => (f env st).bind fun w st1 => match w with
  | .bl b => .ok b st1
  | _ => .no
section
variable {X : Cx} {m : Bool} {a b c : Expr} {fa fb fc : Ef} {ta tb : Tf} {pos : Pos} {op op' : CmpOp} {r r' : R2} {g g' : W → W → Store → R W}
theorem e_cmp (ho : OpR X (compareOp op) r) (hg : Ov2 X.K r g) (ha : OV m m X a fa) (hb : OV m true X b fb) (hm : behindInMarks op b = false := by rfl) : EV m X (.Compare a [op] [b] pos) (bin g fa fb) :=
  ⟨(pe_cmpR ho ha.pe hb.pe hm).imp (ov2 hg)⟩
theorem tst_imp {K : PySem.W.Frag} {f : Ef} {t : TE} (i : ∀ σ H Q, tEf K m f σ H Q → t σ H Q) : ∀ σ H Q, tTf K m (tst_ f) σ H Q → tTest t σ H Q := by
  rintro σ H Q ⟨ow, ρ, env, st, S, b, st', e, q⟩
  obtain ⟨w, st1, e1, e⟩ := R.bind_ok e
  refine i σ H _ ⟨ow, ρ, env, st, S, w, st1, e1, fun v c' x s wf r => ?_⟩
  split at e
  · cases e
    cases r
    exact ⟨_, rfl, q c' x s wf⟩
  · cases e
theorem t_cmp (ho : OpR X (compareOp op) r) (hg : Ov2 X.K r g) (ha : OV m m X a fa) (hb : OV m true X b fb) (hm : behindInMarks op b = false := by rfl) : TV m X (.Compare a [op] [b] pos) (tst_ (bin g fa fb)) :=
  ⟨(pt_cmpR ho ha.pe hb.pe hm).imp (tst_imp (ov2 hg))⟩
/-- a op b op' c -/
def chn_ (g g' : W → W → Store → R W) (fa fb fc : Ef) : Ef := fun env st => (fa env st).bind fun x st1 => (fb env st1).bind fun y st2 => (g x y st2).bind fun k st3 => match k with
  | .bl true => (fc env st3).bind fun z st4 => g' y z st4
  | .bl false => .ok (.bl false) st3
  | _ => .no
theorem chn_imp {K : PySem.W.Frag} (hg : Ov2 K r g) (hg' : Ov2 K r' g') : ∀ σ H Q, tEf K m (chn_ g g' fa fb fc) σ H Q → tChain r r' (tOf K m m fa) (tOf K m m fb) (tOf K m true fc) σ H Q := by
  rintro σ H Q ⟨ow, ρ, env, st, S, w, st', e, q⟩
  obtain ⟨x, st1, e1, e⟩ := R.bind_ok e
  obtain ⟨y, st2, e2, e⟩ := R.bind_ok e
  obtain ⟨k, st3, e3, e⟩ := R.bind_ok e
  refine ⟨ow, ρ, env, st, S, x, st1, e1, fun vx c1 x1 s1 w1 r1 k1 => ?_⟩
  refine ⟨c1.ow, c1.ρ, env, st1, S.ext x1 s1 w1, y, st2, e2, fun vy c2 x2 s2 w2 r2 k2 => ?_⟩
  refine hg c2 st2 x y vx vy k st3 _ s2 w2 (k1 _ _ x2) r2 e3 fun v c3 x3 s3 w3 r3 => ?_
  split at e
  · obtain ⟨z, st4, e4, e⟩ := R.bind_ok e
    cases r3
    refine ⟨true, rfl, ?_⟩
    rw [if_pos rfl]
    refine ⟨c3.ow, c3.ρ, env, st3, (S.ext x1 s1 w1).ext (x2.trans x3.any) s3 w3, z, st4, e4, fun vz c4 x4 s4 w4 r4 _ => ?_⟩
    exact hg' c4 st4 y z vy vz w st' Q s4 w4 (k2 _ _ (x3.any.trans x4)) r4 e fun v' c' x5 s5 w5 r5 => q v' c' ((((x1.trans x2).trans x3.any).trans x4).trans x5.any) s5 w5 r5
  · cases e
    cases r3
    refine ⟨false, rfl, ?_⟩
    rw [if_neg Bool.false_ne_true]
    exact q _ c3 ((x1.trans x2).trans x3.any) s3 w3 (.bl _)
  · cases e
theorem e_chn (ho : OpR X (compareOp op) r) (hg : Ov2 X.K r g) (ho' : OpR X (compareOp op') r') (hg' : Ov2 X.K r' g') (ha : OV m m X a fa) (hb : OV m m X b fb) (hc : OV m true X c fc)
    (hm : lastMarks [op, op'] [b, c] = false := by with_unfolding_all rfl) : EV m X (.Compare a [op, op'] [b, c] pos) (chn_ g g' fa fb fc) := ⟨(pe_chain ho ho' ha.pe hb.pe hc.pe hm).imp (chn_imp hg hg')⟩
theorem t_chn (ho : OpR X (compareOp op) r) (hg : Ov2 X.K r g) (ho' : OpR X (compareOp op') r') (hg' : Ov2 X.K r' g') (ha : OV m m X a fa) (hb : OV m m X b fb) (hc : OV m true X c fc)
    (hm : lastMarks [op, op'] [b, c] = false := by with_unfolding_all rfl) : TV m X (.Compare a [op, op'] [b, c] pos) (tst_ (chn_ g g' fa fb fc)) := ⟨(pt_chain ho ho' ha.pe hb.pe hc.pe hm).imp (tst_imp (chn_imp hg hg'))⟩
/-- a value that is True or False, as a test -/
theorem t_val {e : Expr} {f : Ef} (h : EV m X e f) (he : ∀ whole, isTrue e X.env whole = (do let v ← whole; standAt e.pos; holding [v] (truthy v)) := by intro _; rfl) : TV m X e (tst_ f) :=
  ⟨(pt_val h.pe he).imp (tst_imp fun _ _ _ q => q)⟩

/-! ### and, or, not -/
structure WV (m : Bool) (X : Cx) (e : Expr) (f : Tf) : Prop where
  pw : PW X e (tTf X.K m f)
theorem PW.imp' {X : Cx} {e : Expr} {t t' : TT} (h : PW X e t) (i : ∀ σ H Q, t' σ H Q → t σ H Q) : PW X e t' := ⟨fun wh pins s σ H Q I q => h.run wh pins s σ H Q I (i σ H Q q)⟩
def and_ (fa fb : Tf) : Tf := fun env st => (fa env st).bind fun b st1 => if b = true then fb env st1 else .ok false st1
def or_ (fa fb : Tf) : Tf := fun env st => (fa env st).bind fun b st1 => if b = true then .ok true st1 else fb env st1
def not_ (fa : Tf) : Tf := fun env st => (fa env st).bind fun b st1 => .ok (!b) st1
variable {rest : List Expr}
theorem w_and1 (ha : TV m X a ta) : WV m X (.BoolOp .And [a] pos) ta := ⟨pw_and1 ha.pt⟩
theorem w_or1 (ha : TV m X a ta) : WV m X (.BoolOp .Or [a] pos) ta := ⟨pw_or1 ha.pt⟩
theorem w_and (ha : TV m X a ta) (hb : WV m X (.BoolOp .And (b :: rest) pos) tb) : WV m X (.BoolOp .And (a :: b :: rest) pos) (and_ ta tb) := by
  refine ⟨PW.imp' (pw_and ha.pt hb.pw) ?_⟩
  rintro σ H Q ⟨ow, ρ, env, st, S, k, st', e, q⟩
  obtain ⟨x, st1, e1, e⟩ := R.bind_ok e
  refine ⟨ow, ρ, env, st, S, x, st1, e1, fun c1 x1 s1 w1 => ?_⟩
  cases x with
  | true =>
    rw [if_pos rfl] at e ⊢
    exact ⟨c1.ow, c1.ρ, env, st1, S.ext x1 s1 w1, k, st', e, fun c2 x2 s2 w2 => q c2 (x1.trans x2) s2 w2⟩
  | false =>
    rw [if_neg Bool.false_ne_true] at e ⊢
    cases e
    exact q c1 x1 s1 w1
theorem w_or (ha : TV m X a ta) (hb : WV m X (.BoolOp .Or (b :: rest) pos) tb) : WV m X (.BoolOp .Or (a :: b :: rest) pos) (or_ ta tb) := by
  refine ⟨PW.imp' (pw_or ha.pt hb.pw) ?_⟩
  rintro σ H Q ⟨ow, ρ, env, st, S, k, st', e, q⟩
  obtain ⟨x, st1, e1, e⟩ := R.bind_ok e
  refine ⟨ow, ρ, env, st, S, x, st1, e1, fun c1 x1 s1 w1 => ?_⟩
  cases x with
  | true =>
    rw [if_pos rfl] at e ⊢
    cases e
    exact q c1 x1 s1 w1
  | false =>
    rw [if_neg Bool.false_ne_true] at e ⊢
    exact ⟨c1.ow, c1.ρ, env, st1, S.ext x1 s1 w1, k, st', e, fun c2 x2 s2 w2 => q c2 (x1.trans x2) s2 w2⟩
theorem t_w {e : Expr} {f : Tf} (h : WV m X e f) : TV m X e f := ⟨h.pw.pt⟩
theorem t_not (ha : TV m X a ta) : TV m X (.UnaryOp .Not a pos) (not_ ta) := by
  refine ⟨(pt_not ha.pt).imp ?_⟩
  rintro σ H Q ⟨ow, ρ, env, st, S, k, st', e, q⟩
  obtain ⟨x, st1, e1, e⟩ := R.bind_ok e
  cases e
  exact ⟨ow, ρ, env, st, S, x, _, e1, fun c1 x1 s1 w1 => q c1 x1 s1 w1⟩
/-- as values: all but the last True or False -/
def andV_ (fa fb : Ef) : Ef := fun env st => (fa env st).bind fun x st1 => match x with
  | .bl true => fb env st1
  | .bl false => .ok (.bl false) st1
  | _ => .no
def orV_ (fa fb : Ef) : Ef := fun env st => (fa env st).bind fun x st1 => match x with
  | .bl true => .ok (.bl true) st1
  | .bl false => fb env st1
  | _ => .no
def notV_ (fa : Ef) : Ef := fun env st => (fa env st).bind fun x st1 => match x with
  | .bl b => .ok (.bl (!b)) st1
  | _ => .no
theorem e_one {op : BoolOp} (h : EV m X a fa) : EV m X (.BoolOp op [a] pos) fa := ⟨pe_one h.pe⟩
theorem e_and (ha : EV m X a fa) (hb : EV m X (.BoolOp .And (b :: rest) pos) fb) : EV m X (.BoolOp .And (a :: b :: rest) pos) (andV_ fa fb) := by
  refine ⟨(pe_and ha.pe hb.pe).imp ?_⟩
  rintro σ H Q ⟨ow, ρ, env, st, S, w, st', e, q⟩
  obtain ⟨x, st1, e1, e⟩ := R.bind_ok e
  refine ⟨ow, ρ, env, st, S, x, st1, e1, fun vx c1 x1 s1 w1 r1 => ?_⟩
  split at e
  · cases r1
    refine ⟨true, rfl, ?_⟩
    rw [if_pos rfl]
    exact ⟨c1.ow, c1.ρ, env, st1, S.ext x1 s1 w1, w, st', e, fun v c2 x2 s2 w2 r2 => q v c2 (x1.trans x2) s2 w2 r2⟩
  · cases e
    cases r1
    refine ⟨false, rfl, ?_⟩
    rw [if_neg Bool.false_ne_true]
    exact q _ c1 x1 s1 w1 (.bl _)
  · cases e
theorem e_or (ha : EV m X a fa) (hb : EV m X (.BoolOp .Or (b :: rest) pos) fb) : EV m X (.BoolOp .Or (a :: b :: rest) pos) (orV_ fa fb) := by
  refine ⟨(pe_or ha.pe hb.pe).imp ?_⟩
  rintro σ H Q ⟨ow, ρ, env, st, S, w, st', e, q⟩
  obtain ⟨x, st1, e1, e⟩ := R.bind_ok e
  refine ⟨ow, ρ, env, st, S, x, st1, e1, fun vx c1 x1 s1 w1 r1 => ?_⟩
  split at e
  · cases e
    cases r1
    refine ⟨true, rfl, ?_⟩
    rw [if_pos rfl]
    exact q _ c1 x1 s1 w1 (.bl _)
  · cases r1
    refine ⟨false, rfl, ?_⟩
    rw [if_neg Bool.false_ne_true]
    exact ⟨c1.ow, c1.ρ, env, st1, S.ext x1 s1 w1, w, st', e, fun v c2 x2 s2 w2 r2 => q v c2 (x1.trans x2) s2 w2 r2⟩
  · cases e
theorem e_not (ha : EV m X a fa) : EV m X (.UnaryOp .Not a pos) (notV_ fa) := by
  refine ⟨(pe_not ha.pe).imp ?_⟩
  rintro σ H Q ⟨ow, ρ, env, st, S, w, st', e, q⟩
  obtain ⟨x, st1, e1, e⟩ := R.bind_ok e
  refine ⟨ow, ρ, env, st, S, x, st1, e1, fun vx c1 x1 s1 w1 r1 => ?_⟩
  split at e
  · cases e
    cases r1
    exact ⟨_, rfl, q _ c1 x1 s1 w1 (.bl _)⟩
  · cases e
/-- a if t else b -/
def ife_ (t : Tf) (fa fb : Ef) : Ef := fun env st => (t env st).bind fun k st1 => if k = true then fa env st1 else fb env st1
theorem e_ife {t : Expr} {ft : Tf} (ht : TV m X t ft) (ha : EV m X a fa) (hb : EV m X b fb) : EV m X (.IfExp t a b pos) (ife_ ft fa fb) := by
  refine ⟨(pe_ifExp ht.pt ha.pe hb.pe).imp ?_⟩
  rintro σ H Q ⟨ow, ρ, env, st, S, w, st', e, q⟩
  obtain ⟨x, st1, e1, e⟩ := R.bind_ok e
  refine ⟨ow, ρ, env, st, S, x, st1, e1, fun c1 x1 s1 w1 => ?_⟩
  cases x with
  | true =>
    rw [if_pos rfl] at e ⊢
    exact ⟨c1.ow, c1.ρ, env, st1, S.ext x1 s1 w1, w, st', e, fun v c2 x2 s2 w2 r2 => q v c2 (x1.trans x2) s2 w2 r2⟩
  | false =>
    rw [if_neg Bool.false_ne_true] at e ⊢
    exact ⟨c1.ow, c1.ρ, env, st1, S.ext x1 s1 w1, w, st', e, fun v c2 x2 s2 w2 r2 => q v c2 (x1.trans x2) s2 w2 r2⟩
end
end Cr
/-! Cr5: subscripts, slices, displays, calls of what is built in. -/
namespace Cr
open PySem PySem.Spec PyProof.Rows L2

/-! ### subscripts -/
def ixW : W → W → Store → R W
  | .tup xs, .int i, st => match atI xs i with
    | some w => .ok w st
    | none => .no
  | .lst xs, .int i, st => match atI xs i with
    | some w => .ok w st
    | none => .no
  | .str x, .int i, st => match atI x.cps.toList i with
    | some c => .ok (.str ⟨#[c]⟩) st
    | none => .no
  | .scr ns, .int i, st => match atI ns i with
    | some n => .ok (.int n) st
    | none => .no
  | .dct kvs, k, st => match k.key with
    | some k => match getW kvs k with
      | some w => .ok w st
      | none => .no
    | none => .no
  | .ref n, .str f, st => match st[n]? with
    | some ob => match ob.cls, ob.fs.lookup f with
      | none, some (.w w) => .ok w st
      | _, _ => .no
    | none => .no
  | _, _, _ => .no
section
variable {K : PySem.W.Frag}
theorem RepL.atI {H : Hp} {ρ : List Addr} {ws : List W} {vs : List V} {i : Int} {w : W} (r : RepL K H ρ ws vs) (h : atI ws i = some w) : ∃ v, L2.atI vs i = some v ∧ Rep K H ρ w v := by
  have hl := r.length
  unfold L2.atI at h ⊢
  rw [← hl]
  cases e : ixN ws.length i with
  | none => rw [e] at h; cases h
  | some j =>
    rw [e] at h
    exact r.get h
theorem FldR.look {c : Cf} {n : Nat} {f : Str} {o : O} : ∀ {fs : List (Str × O)} {vs : List (Key × V)}, FldR K c n fs vs → fs.lookup f = some o → ∃ v, valV vs (.inr f) = some v ∧ Hd K c (.fld n f) o v
  | _, _, .nil, e => by cases e
  | _, _, .cons (f := g) (v := v0) (vs := vs) h r, e => by
    rw [List.lookup_cons] at e
    by_cases q : f = g
    · subst q
      have z : (f == f) = true := by simp
      rw [z] at e
      cases e
      exact ⟨v0, valV_pos (p := ((.inr f : Key), v0)) rfl, h⟩
    · have z : (f == g) = false := by simpa using q
      rw [z] at e
      obtain ⟨v, h1, h2⟩ := FldR.look r e
      exact ⟨v, by rw [valV_neg (p := ((.inr g : Key), v0)) (fun z => q (Sum.inr.inj z).symm)]; exact h1, h2⟩
theorem strOk_one {x : Str} {c : Nat} (h : PyData.strOk x = true) (m : c ∈ x.cps.toList) : PyData.strOk ⟨#[c]⟩ = true := by
  unfold PyData.strOk at *
  rw [Array.all_eq_true_iff_forall_mem] at h
  have := h c (by simpa using m)
  simpa using this
theorem atI_mem {α : Type} {xs : List α} {i : Int} {a : α} (h : atI xs i = some a) : a ∈ xs := by
  obtain ⟨j, _, h2, _⟩ := atI_get h
  exact List.mem_of_getElem? h2
def rIxDi : R2 := fun x y H Q => ∃ a v, x = .ref a ∧ DGet H a y (some v) ∧ Q v H
theorem ix_dict {X : Cx} (hu : X.A.units + 1 < cLine) : IxR X rIxDi := by
  intro value slice pins s σ H x y v u Q I rx ry h hs
  obtain ⟨a, z, rfl, g, q⟩ := h
  cases rx
  exact tail_any (dict_typeIs I g) PySem.F.slot_dict_getitem.lookup (d_getItem hu I g ry fun w' s3 I3 rw' => ⟨z, H, I3, rw', q⟩) hs
abbrev rIxAll (K : PySem.W.Frag) : R2 := fun x y H Q => rIxL K x y H Q ∨ rIxT K x y H Q ∨ rIxS x y H Q ∨ rIxDi x y H Q
theorem ix_all {X : Cx} (hu : X.A.units + 1 < cLine) : IxR X (rIxAll X.K) := ix_list.or (ix_tup.or (ix_str.or (ix_dict hu)))
theorem View.key {c : Cf} {y : W} {vy : V} {k : Key} (r : View K c y vy) (h : y.key = some k) : vy = kV k := by
  cases y with
  | int i => cases h; exact r.asI
  | str x => cases h; exact r.asS.1
  | _ => cases h
theorem v_ix : Ov2 K (rIxAll K) ixW := by
  intro c st x y vx vy w st' Q s wf rx ry e q
  unfold ixW at e
  split at e
  · split at e <;> cases e
    rename_i h
    obtain ⟨a, vs, rfl, h1, r, _, _⟩ := rx.asT
    obtain ⟨v, h2, h3⟩ := r.atI h
    exact .inr (.inl ⟨a, vs, _, v, rfl, ry.asI, h1, h2, q _ c (Ext.refl ..) s wf h3⟩)
  · split at e <;> cases e
    rename_i h
    obtain ⟨a, vs, rfl, h1, r, _⟩ := rx.asL
    obtain ⟨v, h2, h3⟩ := r.atI h
    exact .inl ⟨a, vs, _, v, rfl, ry.asI, SqL.of h1, h2, q _ c (Ext.refl ..) s wf h3⟩
  · split at e <;> cases e
    rename_i h
    obtain ⟨rfl, h1, h2⟩ := rx.asS
    exact .inr (.inr (.inl ⟨_, _, _, rfl, ry.asI, by rw [lim_eq]; exact h2, h, q _ c (Ext.refl ..) s wf (.str _ (strOk_one h1 (atI_mem h)) (by show 1 ≤ LIM; decide))⟩))
  · split at e <;> cases e
    rename_i h
    cases rx with
    | of r => cases r with
      | scr hs _ =>
        refine .inl ⟨_, _, _, .int _, rfl, ry.asI, sqL_mono fz_sub hs, ?_, q _ c (Ext.refl ..) s wf (.int _)⟩
        unfold L2.atI at h ⊢
        rw [List.length_map]
        revert h
        cases ixN _ _ with
        | none => intro h; cases h
        | some j =>
          intro h
          show (List.map V.int _)[j]? = _
          rw [List.getElem?_map]
          exact congrArg (Option.map V.int) h
  · split at e
    · split at e <;> cases e
      rename_i k hk w hw
      obtain ⟨a, vs, rfl, h1, r, _⟩ := rx.asD
      obtain ⟨v, h2, h3⟩ := (r.get k).1 _ hw
      have ey : vy = kV k := ry.key hk
      exact .inr (.inr (.inr ⟨a, v, rfl, .inl ⟨vs, k, h1, ey, h2.symm⟩, q _ c (Ext.refl ..) s wf h3⟩))
    · cases e
  · split at e
    · rename_i ob hob
      split at e <;> cases e
      rename_i hc hf
      obtain ⟨a, rfl, ha⟩ := rx.asR
      obtain ⟨a', h1, h2⟩ := s.at_ _ _ hob
      rw [ha] at h1
      cases h1
      cases h2 with
      | dict e1 e2 e3 r =>
        obtain ⟨v, h4, h5⟩ := r.look hf
        obtain ⟨pk, _⟩ := h5
        cases pk with
        | w r5 => exact .inr (.inr (.inr ⟨a, v, rfl, .inl ⟨_, (.inr _), .inl e3, ry.asS.1, h4.symm⟩, q _ c (Ext.refl ..) s wf r5⟩))
    · cases e
  · cases e
end
section
variable {X : Cx} {m m2 : Bool} {a b : Expr} {fa fb : Ef} {pos : Pos}
theorem e_ix (hu : X.A.units + 1 < cLine) (ha : OV m m X a fa) (hb : OV m true X b fb) (hs : PlainIx b := by intro _ _; rfl) : EV m X (.Subscript a b pos) (bin ixW fa fb) :=
  ⟨(pe_ix (ix_all hu) ha.pe hb.pe hs).imp (ov2 v_ix)⟩
/-- a shared dict's own thing, looked at: it stays while nothing is written -/
def fld_ (f : Str) (fa : Ef) : Ef := fun env st => (fa env st).bind fun x st1 => match x with
  | .ref n => match st1[n]? with
    | some ob => match ob.cls, ob.fs.lookup f with
      | none, some (.oll _) => .no
      | none, some o => .ok o.view st1
      | _, _ => .no
    | none => .no
  | _ => .no
theorem StR.dict {K : PySem.W.Frag} {c : Cf} {st : Store} {n : Nat} {ob : Ob} {a : Addr} {f : Str} {o : O} (s : StR K c st) (h : st[n]? = some ob) (hc : ob.cls = none) (hf : ob.fs.lookup f = some o) (ha : c.ρ[n]? = some a) :
    ∃ vs v, c.H a = some (.dK vs) ∧ valV vs (.inr f) = some v ∧ Hd K c (.fld n f) o v := by
  obtain ⟨a', h1, h2⟩ := s.at_ _ _ h
  rw [ha] at h1
  cases h1
  cases h2 with
  | dict e1 e2 e3 r =>
    obtain ⟨v, h4, h5⟩ := r.look hf
    exact ⟨_, v, e3, h4, h5⟩
theorem Hd.still {K : PySem.W.Frag} {c c1 : Cf} {st st1 : Store} {p : Place} {o : O} {v : V} (h : Hd K c p o v) (wf : Wf c) (x : Ext true c c1 st st1) : Hd K c1 p o v := by
  refine h.keep x.frz x.loc fun a e => ?_
  obtain ⟨u, hu⟩ := wf a _ e
  obtain ⟨y, z⟩ := (x.still rfl).2 a u hu
  exact ⟨y.trans e, z.trans hu.symm⟩
theorem o_fld (hu : X.A.units + 1 < cLine) {f : Str} {j : Nat} {kpos : Pos} (ha : EV m X a fa) : OV m true X (.Subscript a (.Constant (.str f) j kpos) pos) (fld_ f fa) := by
  refine ⟨(pe_ix (ix_dict hu) ha.pe (pe_str (x := f) (j := j) (pos := kpos)) (by intro _ _; rfl)).imp ?_⟩
  rintro σ H Q ⟨ow, ρ, env, st, S, w, st', e, q⟩
  obtain ⟨x, st1, e1, e⟩ := R.bind_ok e
  refine ⟨ow, ρ, env, st, S, x, st1, e1, fun vx c1 x1 s1 w1 r1 => ?_⟩
  split at e
  · split at e
    · rename_i n ob hob
      cases r1 with
      | ref hn =>
        rename_i a0
        split at e
        · cases e
        · rename_i o hno hc hf
          cases e
          obtain ⟨vs, v, h1, h2, h3⟩ := s1.dict hob hc hf hn
          exact ⟨a0, v, rfl, .inl ⟨vs, _, .inl h1, rfl, h2.symm⟩, q v c1 x1 s1 w1 h3.pk.view fun c2 st2 y => (h3.still w1 y).pk.view⟩
        · cases e
    · cases e
  · cases e
end

/-! ### slices -/
def cutW {α : Type} (xs : List α) (lo hi : Option Int) : List α := (xs.drop (HT.sIx xs.length 0 lo)).take (HT.sIx xs.length xs.length hi - HT.sIx xs.length 0 lo)
abbrev Qf := Env → Store → R (Option Int)
def noPart : Qf := fun _ st => .ok none st
def part (f : Ef) : Qf := fun env st => (f env st).bind fun x st1 => match x with
  | .int i => .ok (some i) st1
  | _ => .no
def slW : W → Option Int → Option Int → Store → R W
  | .tup xs, lo, hi, st => .ok (.tup (cutW xs lo hi)) st
  | .lst xs, lo, hi, st => .ok (.lst (cutW xs lo hi)) st
  | .str x, lo, hi, st => .ok (.str (cutS x lo hi)) st
  | _, _, _, _ => .no
def sl_ (fa : Ef) (lo hi : Qf) : Ef := fun env st => (fa env st).bind fun x st1 => (lo env st1).bind fun l st2 => (hi env st2).bind fun h st3 => slW x l h st3
def tQf (K : PySem.W.Frag) (m : Bool) (f : Qf) : TO := fun σ H Q => ∃ ow ρ env st, Sm K ⟨ow, H, ρ⟩ env st σ ∧ ∃ w st', f env st = .ok w st' ∧
  ∀ c', Ext m ⟨ow, H, ρ⟩ c' st st' → StR K c' st' → Wf c' → Q w c'.H
structure QV (m : Bool) (X : Cx) (e : Option Expr) (f : Qf) : Prop where
  po : PO X e (tQf X.K m f)
theorem PO.imp' {X : Cx} {e : Option Expr} {t t' : TO} (h : PO X e t) (i : ∀ σ H Q, t' σ H Q → t σ H Q) : PO X e t' := ⟨fun pins s σ H Q I q => h.run pins s σ H Q I (i σ H Q q)⟩
section
variable {X : Cx} {m m2 : Bool} {a b : Expr} {fa fb : Ef} {pos : Pos}
theorem q_none : QV m X none noPart := by
  refine ⟨PO.imp' po_none ?_⟩
  rintro σ H Q ⟨ow, ρ, env, st, S, w, st', e, q⟩
  cases e
  exact q ⟨ow, H, ρ⟩ (Ext.refl ..) S.s S.wf
theorem q_some (ha : EV m X a fa) : QV m X (some a) (part fa) := by
  refine ⟨PO.imp' (po_some ha.pe) ?_⟩
  rintro σ H Q ⟨ow, ρ, env, st, S, w, st', e, q⟩
  obtain ⟨x, st1, e1, e⟩ := R.bind_ok e
  refine ⟨ow, ρ, env, st, S, x, st1, e1, fun vx c1 x1 s1 w1 r1 => ?_⟩
  split at e
  · cases e
    cases r1
    exact ⟨_, rfl, q c1 x1 s1 w1⟩
  · cases e
theorem RepL.cut {K : PySem.W.Frag} {H : Hp} {ρ : List Addr} {ws : List W} {vs : List V} {lo hi : Option Int} (r : RepL K H ρ ws vs) : RepL K H ρ (cutW ws lo hi) (cutV vs lo hi) := by
  unfold cutW cutV
  rw [r.length]
  exact (r.drop _).take _
theorem cutW_length {α : Type} (xs : List α) (lo hi : Option Int) : (cutW xs lo hi).length ≤ xs.length := by
  unfold cutW
  rw [List.length_take, List.length_drop]
  omega
theorem strOk_of_sub {x y : Str} (h : PyData.strOk x = true) (m : ∀ c, c ∈ y.cps.toList → c ∈ x.cps.toList) : PyData.strOk y = true := by
  unfold PyData.strOk at *
  rw [Array.all_eq_true_iff_forall_mem] at h ⊢
  intro c hc
  exact h c (by simpa using m c (by simpa using hc))
theorem cutS_ok {x : Str} {lo hi : Option Int} (h : PyData.strOk x = true) : PyData.strOk (cutS x lo hi) = true :=
  strOk_of_sub h fun c hc => by
    unfold cutS at hc
    simp only [] at hc
    exact List.mem_of_mem_drop (List.mem_of_mem_take hc)
theorem cutS_length (x : Str) (lo hi : Option Int) : (cutS x lo hi).length ≤ x.length := by
  unfold cutS
  show (Array.size _) ≤ x.cps.size
  rw [List.size_toArray, List.length_take, List.length_drop, Array.length_toList]
  omega
abbrev rSlAll (K : PySem.W.Frag) : V → Option Int → Option Int → Hp → VK → Prop := fun x lo hi H Q => rSlA K x lo hi H Q ∨ rSlL K x lo hi H Q ∨ rSlS x lo hi H Q
theorem cut_whole {α : Type} {xs : List α} {lo hi : Option Int} (h : HT.sIx xs.length 0 lo = 0 ∧ HT.sIx xs.length xs.length hi = xs.length) : cutW xs lo hi = xs := by
  unfold cutW
  rw [h.1, h.2, List.drop_zero, Nat.sub_zero, List.take_length]
theorem e_sl {lo hi : Option Expr} {fl fh : Qf} {p2 : Pos} (ha : OV m m X a fa) (hl : QV m X lo fl) (hh : QV m X hi fh) : EV m X (.Subscript a (.Slice lo hi none p2) pos) (sl_ fa fl fh) := by
  refine ⟨(pe_slice (sl_tupA.or (sl_list.or sl_str)) ha.pe hl.po hh.po).imp ?_⟩
  rintro σ H Q ⟨ow, ρ, env, st, S, w, st', e, q⟩
  obtain ⟨x, st1, e1, e⟩ := R.bind_ok e
  obtain ⟨l, st2, e2, e⟩ := R.bind_ok e
  obtain ⟨h, st3, e3, e⟩ := R.bind_ok e
  refine ⟨ow, ρ, env, st, S, x, st1, e1, fun vx c1 x1 s1 w1 r1 k1 => ?_⟩
  refine ⟨c1.ow, c1.ρ, env, st1, S.ext x1 s1 w1, l, st2, e2, fun c2 x2 s2 w2 => ?_⟩
  refine ⟨c2.ow, c2.ρ, env, st2, (S.ext x1 s1 w1).ext x2 s2 w2, h, st3, e3, fun c3 x3 s3 w3 => ?_⟩
  have r := k1 _ _ (x2.trans x3)
  have X3 := (x1.trans x2).trans x3
  unfold slW at e
  split at e <;> cases e
  · obtain ⟨a, vs, rfl, h1, rl, z, whole⟩ := r.asT
    have hl := rl.length
    refine .inl ⟨a, vs, rfl, h1, fun hw => ?_, fun hw p hp => ?_⟩
    · rw [← hl] at hw
      refine q _ c3 X3 s3 w3 ?_
      rw [cut_whole hw]
      exact whole
    · obtain ⟨x4, s4, w4, f4⟩ := alloc X.K st' (.tup (cutV vs l h)) w3 hp
      exact q _ _ (X3.trans x4.any) (s4 s3) w4 (.tup (.inl (.inl f4)) ((x4.repL rl).cut) (Nat.le_trans (cutW_length ..) z))
  · obtain ⟨a, vs, rfl, h1, rl, z⟩ := r.asL
    refine .inr (.inl ⟨a, vs, rfl, SqL.of h1, fun p hp => ?_⟩)
    obtain ⟨x4, s4, w4, f4⟩ := alloc X.K st' (.lst (cutV vs l h)) w3 hp
    exact q _ _ (X3.trans x4.any) (s4 s3) w4 (.lst f4 ((x4.repL rl).cut) (Nat.le_trans (cutW_length ..) z))
  · obtain ⟨rfl, h1, h2⟩ := r.asS
    exact .inr (.inr ⟨_, rfl, by rw [lim_eq]; exact h2, q _ c3 X3 s3 w3 (.str _ (cutS_ok h1) (Nat.le_trans (cutS_length ..) h2))⟩)

/-! ### lists of expressions, displays -/
def nil_ : Af := fun _ st => .ok [] st
def cons_ (f : Ef) (r : Af) : Af := fun env st => (f env st).bind fun x st1 => (r env st1).bind fun xs st2 => .ok (x :: xs) st2
variable {e : Expr} {es : List Expr} {f : Ef} {fr : Af}
theorem a_nil : AV m X [] nil_ := by
  refine ⟨pa_nil.imp ?_⟩
  rintro σ H Q ⟨ow, ρ, env, st, S, w, st', e, q⟩
  cases e
  exact q [] ⟨ow, H, ρ⟩ (Ext.refl ..) S.s S.wf .nil
theorem a_cons (h : EV m X e f) (hr : AV m X es fr) (hs : starEach (e :: es) X.env = (false, eval e X.env) :: starEach es X.env := by rfl) : AV m X (e :: es) (cons_ f fr) := by
  refine ⟨(pa_cons h.pe hr.pa hs).imp ?_⟩
  rintro σ H Q ⟨ow, ρ, env, st, S, w, st', e, q⟩
  obtain ⟨x, st1, e1, e⟩ := R.bind_ok e
  obtain ⟨xs, st2, e2, e⟩ := R.bind_ok e
  cases e
  refine ⟨ow, ρ, env, st, S, x, st1, e1, fun vx c1 x1 s1 w1 r1 => ?_⟩
  exact ⟨c1.ow, c1.ρ, env, st1, S.ext x1 s1 w1, xs, _, e2, fun vs c2 x2 s2 w2 r2 => q _ c2 (x1.trans x2) s2 w2 (.cons (x2.rep r1) r2)⟩
def tup_ (f : Af) : Ef := fun env st => (f env st).bind fun xs st1 => if xs.length ≤ LIM then .ok (.tup xs) st1 else .no
def lst_ (f : Af) : Ef := fun env st => (f env st).bind fun xs st1 => if xs.length ≤ LIM then .ok (.lst xs) st1 else .no
theorem e_tup {x1} (h : AV m X es fr) : EV m X (.Tuple es x1 pos) (tup_ fr) := by
  refine ⟨(pe_tup h.pa).imp ?_⟩
  rintro σ H Q ⟨ow, ρ, env, st, S, w, st', e, q⟩
  obtain ⟨xs, st1, e1, e⟩ := R.bind_ok e
  refine ⟨ow, ρ, env, st, S, xs, st1, e1, fun vs c1 x1 s1 w1 r1 => ?_⟩
  split at e <;> cases e
  rename_i hz
  refine ⟨by rw [lim_eq, ← r1.length]; exact hz, fun p hp => ?_⟩
  obtain ⟨x4, s4, w4, f4⟩ := alloc X.K st' (.tup vs) w1 hp
  exact q _ _ (x1.trans x4.any) (s4 s1) w4 (.tup (.inl (.inl f4)) (x4.repL r1) hz)
theorem e_lst (h : AV m X es fr) : EV m X (.List es pos) (lst_ fr) := by
  refine ⟨(pe_lst h.pa).imp ?_⟩
  rintro σ H Q ⟨ow, ρ, env, st, S, w, st', e, q⟩
  obtain ⟨xs, st1, e1, e⟩ := R.bind_ok e
  refine ⟨ow, ρ, env, st, S, xs, st1, e1, fun vs c1 x1 s1 w1 r1 => ?_⟩
  split at e <;> cases e
  rename_i hz
  refine ⟨by rw [lim_eq, ← r1.length]; exact hz, fun p hp => ?_⟩
  obtain ⟨x4, s4, w4, f4⟩ := alloc X.K st' (.lst vs) w1 hp
  exact q _ _ (x1.trans x4.any) (s4 s1) w4 (.lst f4 (x4.repL r1) hz)
end
end Cr
/-! Cr6: calls of what is built in. -/
namespace Cr
open PySem PySem.Spec PyProof.Rows L2

def un (g : W → Store → R W) (fa : Ef) : Ef := fun env st => (fa env st).bind fun x st1 => g x st1
/-- a built-in of one argument, by values -/
def Cb1 (K : PySem.W.Frag) (r : List V → Hp → VK → Prop) (g : W → Store → R W) : Prop :=
  ∀ (c : Cf) (st : Store) (x : W) (vx : V) (w : W) (st' : Store) (Q : VK), StR K c st → Wf c → View K c x vx → g x st = .ok w st' →
    (∀ v c', Ext true c c' st st' → StR K c' st' → Wf c' → RepC K c' w v → Q v c'.H) → r [vx] c.H Q
def Cb2 (K : PySem.W.Frag) (r : List V → Hp → VK → Prop) (g : W → W → Store → R W) : Prop :=
  ∀ (c : Cf) (st : Store) (x y : W) (vx vy : V) (w : W) (st' : Store) (Q : VK), StR K c st → Wf c → View K c x vx → View K c y vy → g x y st = .ok w st' →
    (∀ v c', Ext true c c' st st' → StR K c' st' → Wf c' → RepC K c' w v → Q v c'.H) → r [vx, vy] c.H Q
section
variable {X : Cx} {m : Bool} {a b : Expr} {fa fb : Ef} {pos p : Pos} {x : Str} {id : String} {r : List V → Hp → VK → Prop} {g : W → Store → R W} {g2 : W → W → Store → R W}
theorem cb1_imp {K : PySem.W.Frag} (hg : Cb1 K r g) : ∀ σ H Q, tEf K m (un g fa) σ H Q → tCB r (tCons (tOf K m true fa) tNil) σ H Q := by
  rintro σ H Q ⟨ow, ρ, env, st, S, w, st', e, q⟩
  obtain ⟨x, st1, e1, e⟩ := R.bind_ok e
  refine ⟨ow, ρ, env, st, S, x, st1, e1, fun vx c1 x1 s1 w1 r1 k1 => ?_⟩
  exact hg c1 st1 x vx w st' Q s1 w1 r1 e fun v c' x3 s3 w3 r3 => q v c' (x1.trans x3.any) s3 w3 r3
theorem cb2_imp {K : PySem.W.Frag} (hg : Cb2 K r g2) : ∀ σ H Q, tEf K m (bin g2 fa fb) σ H Q → tCB r (tCons (tOf K m m fa) (tCons (tOf K m true fb) tNil)) σ H Q := by
  rintro σ H Q ⟨ow, ρ, env, st, S, w, st', e, q⟩
  obtain ⟨x, st1, e1, e⟩ := R.bind_ok e
  obtain ⟨y, st2, e2, e⟩ := R.bind_ok e
  refine ⟨ow, ρ, env, st, S, x, st1, e1, fun vx c1 x1 s1 w1 r1 k1 => ?_⟩
  refine ⟨c1.ow, c1.ρ, env, st1, S.ext x1 s1 w1, y, st2, e2, fun vy c2 x2 s2 w2 r2 _ => ?_⟩
  exact hg c2 st2 x y vx vy w st' Q s2 w2 (k1 _ _ x2) r2 e fun v c' x3 s3 w3 r3 => q v c' ((x1.trans x2).trans x3.any) s3 w3 r3
theorem e_b1 (hc : CallR X (.builtin id) r) (hg : Cb1 X.K r g) (gl : Gl X x) (hm : X.mg x = none) (hv : bootBuiltins x = some (.builtin id)) (ha : OV m true X a fa) (hn : x ≠ "__name__" := by decide) (hdb : (x == ("__debug__" : Str)) = false := by decide)
    (hs : starEach [a] X.env = (false, eval a X.env) :: starEach [] X.env := by rfl) : EV m X (.Call (.Name x p) [a] [] pos) (un g fa) :=
  ⟨(pe_callB hc gl hm hv (pa_cons ha.pe pa_nil hs) hn hdb hs).imp (cb1_imp hg)⟩
theorem e_bt1 (hc : CallR X (.type id) r) (hg : Cb1 X.K r g) (gl : Gl X x) (hm : X.mg x = none) (hv : bootBuiltins x = some (.type id)) (ha : OV m true X a fa) (hn : x ≠ "__name__" := by decide) (hdb : (x == ("__debug__" : Str)) = false := by decide)
    (hs : starEach [a] X.env = (false, eval a X.env) :: starEach [] X.env := by rfl) : EV m X (.Call (.Name x p) [a] [] pos) (un g fa) :=
  ⟨(pe_callTy hc gl hm hv (pa_cons ha.pe pa_nil hs) hn hdb hs).imp (cb1_imp hg)⟩
theorem e_b2 (hc : CallR X (.builtin id) r) (hg : Cb2 X.K r g2) (gl : Gl X x) (hm : X.mg x = none) (hv : bootBuiltins x = some (.builtin id)) (ha : OV m m X a fa) (hb : OV m true X b fb) (hn : x ≠ "__name__" := by decide) (hdb : (x == ("__debug__" : Str)) = false := by decide)
    (hs : starEach [a, b] X.env = (false, eval a X.env) :: starEach [b] X.env := by rfl) (hs2 : starEach [b] X.env = (false, eval b X.env) :: starEach [] X.env := by rfl) (hpl : (backTo pos (starEach [b] X.env)).any (·.1) = false := by rfl) :
    EV m X (.Call (.Name x p) [a, b] [] pos) (bin g2 fa fb) :=
  ⟨(pe_callB hc gl hm hv (pa_cons ha.pe (pa_cons hb.pe pa_nil hs2) hs) hn hdb hs hpl).imp (cb2_imp hg)⟩
end
theorem CallR.or {X : Cx} {f : Value} {r r' : List V → Hp → VK → Prop} (h : CallR X f r) (h' : CallR X f r') : CallR X f (fun x H Q => r x H Q ∨ r' x H Q) := by
  intro pins s σ H xs us Q I rs q
  rcases q with q | q
  · exact h pins s σ H xs us Q I rs q
  · exact h' pins s σ H xs us Q I rs q

/-! ### their meanings -/
def intsOf : List W → Option (List Int)
  | [] => some []
  | .int i :: r => (intsOf r).map (i :: ·)
  | _ :: _ => none
def boolsOf : List W → Option (List Bool)
  | [] => some []
  | .bl i :: r => (boolsOf r).map (i :: ·)
  | _ :: _ => none
@[simp] theorem intsOf_map (ns : List Int) : intsOf (ns.map W.int) = some ns := by
  induction ns with
  | nil => rfl
  | cons n ns ih => simp [intsOf, ih]
@[simp] theorem boolsOf_map (ns : List Bool) : boolsOf (ns.map W.bl) = some ns := by
  induction ns with
  | nil => rfl
  | cons n ns ih => simp [boolsOf, ih]
theorem intsOf_eq : ∀ {ws : List W} {ns : List Int}, intsOf ws = some ns → ws = ns.map W.int
  | [], _, h => by cases h; rfl
  | w :: ws, ns, h => by
    cases w with
    | int i =>
      simp only [intsOf, Option.map_eq_some_iff] at h
      obtain ⟨r, h1, h2⟩ := h
      subst h2
      rw [intsOf_eq h1, List.map_cons]
    | _ => cases h
theorem boolsOf_eq : ∀ {ws : List W} {ns : List Bool}, boolsOf ws = some ns → ws = ns.map W.bl
  | [], _, h => by cases h; rfl
  | w :: ws, ns, h => by
    cases w with
    | bl i =>
      simp only [boolsOf, Option.map_eq_some_iff] at h
      obtain ⟨r, h1, h2⟩ := h
      subst h2
      rw [boolsOf_eq h1, List.map_cons]
    | _ => cases h
theorem RepL.ints {K : PySem.W.Frag} {H : Hp} {ρ : List Addr} : ∀ {ns : List Int} {vs : List V}, RepL K H ρ (ns.map W.int) vs → vs = ns.map V.int
  | [], _, h => by cases h; rfl
  | n :: ns, _, h => by
    rw [List.map_cons] at h
    cases h with
    | cons q r => cases q; rw [RepL.ints r, List.map_cons]
theorem RepL.bools {K : PySem.W.Frag} {H : Hp} {ρ : List Addr} : ∀ {ns : List Bool} {vs : List V}, RepL K H ρ (ns.map W.bl) vs → vs = ns.map V.bl
  | [], _, h => by cases h; rfl
  | n :: ns, _, h => by
    rw [List.map_cons] at h
    cases h with
    | cons q r => cases q; rw [RepL.bools r, List.map_cons]
theorem repL_ints {K : PySem.W.Frag} {H : Hp} {ρ : List Addr} : ∀ ns : List Int, RepL K H ρ (ns.map W.int) (ns.map V.int)
  | [] => .nil
  | n :: ns => .cons (.int n) (repL_ints ns)

def lenW : W → Store → R W
  | .tup xs, st => .ok (.int xs.length) st
  | .lst xs, st => .ok (.int xs.length) st
  | .str x, st => .ok (.int x.length) st
  | .scr ns, st => .ok (.int ns.length) st
  | _, _ => .no
def absW : W → Store → R W
  | .int i, st => .ok (.int (if i < 0 then -i else i)) st
  | _, _ => .no
def intW : W → Store → R W
  | .int i, st => .ok (.int i) st
  | .bl b, st => .ok (.int (if b then 1 else 0)) st
  | _, _ => .no
def sumW : W → Store → R W
  | .lst xs, st => match intsOf xs with
    | some ns => .ok (.int ns.sum) st
    | none => .no
  | _, _ => .no
def maxI : List Int → Int
  | [] => 0
  | [x] => x
  | x :: r => max x (maxI r)
def minI : List Int → Int
  | [] => 0
  | [x] => x
  | x :: r => min x (minI r)
def maxW : W → Store → R W
  | .lst xs, st => match intsOf xs with
    | some (n :: ns) => .ok (.int (maxI (n :: ns))) st
    | _ => .no
  | _, _ => .no
def minW : W → Store → R W
  | .lst xs, st => match intsOf xs with
    | some (n :: ns) => .ok (.int (minI (n :: ns))) st
    | _ => .no
  | _, _ => .no
def allW : W → Store → R W
  | .lst xs, st => match boolsOf xs with
    | some ns => .ok (.bl (ns.all id)) st
    | none => .no
  | _, _ => .no
def anyW : W → Store → R W
  | .lst xs, st => match boolsOf xs with
    | some ns => .ok (.bl (ns.any id)) st
    | none => .no
  | _, _ => .no
def max2W : W → W → Store → R W
  | .int i, .int j, st => .ok (.int (if j > i then j else i)) st
  | _, _, _ => .no
def min2W : W → W → Store → R W
  | .int i, .int j, st => .ok (.int (if j < i then j else i)) st
  | _, _, _ => .no
def sortI (ns : List Int) : List Int := ns.mergeSort fun a b => decide (a ≤ b)
theorem sortI_perm (ns : List Int) : (sortI ns).Perm ns := List.mergeSort_perm ..
theorem sortI_sorted (ns : List Int) : (sortI ns).Pairwise (· ≤ ·) := by
  have h := List.pairwise_mergeSort (le := fun a b : Int => decide (a ≤ b)) (fun a b c h1 h2 => by simp only [decide_eq_true_eq] at *; omega) (fun a b => by simp only [Bool.or_eq_true, decide_eq_true_eq]; omega) ns
  exact h.imp fun h => by simpa using h
theorem sortI_unique {ns ns' : List Int} (hp : ns'.Perm ns) (hs : ns'.Pairwise (· ≤ ·)) : ns' = sortI ns := PySem.W.ksm_same (hp.trans (sortI_perm ns).symm) hs (sortI_sorted ns)
theorem sortI_length (ns : List Int) : (sortI ns).length = ns.length := (sortI_perm ns).length_eq
/-- the keys of a dict, ints -/
def keysI : List (Key × W) → Option (List Int)
  | [] => some []
  | (.inl i, _) :: r => (keysI r).map (i :: ·)
  | (.inr _, _) :: _ => none
theorem keysI_eq : ∀ {ws : List (Key × W)} {ns : List Int}, keysI ws = some ns → ws.map (·.1) = ns.map Sum.inl
  | [], _, h => by cases h; rfl
  | (.inr _, _) :: ws, ns, h => by cases h
  | (.inl i, _) :: ws, ns, h => by
    simp only [keysI, Option.map_eq_some_iff] at h
    obtain ⟨r, h1, h2⟩ := h
    subst h2
    rw [List.map_cons, List.map_cons, keysI_eq h1]
theorem RepD.keys {K : PySem.W.Frag} {H : Hp} {ρ : List Addr} : ∀ {ws : List (Key × W)} {vs : List (Key × V)}, RepD K H ρ ws vs → ws.map (·.1) = vs.map (·.1)
  | _, _, .nil => rfl
  | _, _, .cons _ r => by rw [List.map_cons, List.map_cons, RepD.keys r]
def sortedW : W → Store → R W
  | .lst xs, st => match intsOf xs with
    | some ns => .ok (.lst ((sortI ns).map .int)) st
    | none => .no
  | .dct kvs, st => match keysI kvs with
    | some ns => if ns.length < 64 then .ok (.lst ((sortI ns).map .int)) st else .no
    | none => .no
  | _, _ => .no
def tupleW : W → Store → R W
  | .lst xs, st => .ok (.tup xs) st
  | .tup xs, st => .ok (.tup xs) st
  | _, _ => .no
def listW : W → Store → R W
  | .lst xs, st => .ok (.lst xs) st
  | .tup xs, st => .ok (.lst xs) st
  | .dct kvs, st => match keysI kvs with
    | some ns => .ok (.lst (ns.map .int)) st
    | none => .no
  | _, _ => .no
/-- pairs with keys -/
def pairsOf : List W → Option (List (Key × W))
  | [] => some []
  | .tup [k, v] :: r => match k.key with
    | some k => (pairsOf r).map ((k, v) :: ·)
    | none => none
  | _ :: _ => none
def mergeW (kvs more : List (Key × W)) : List (Key × W) := more.foldl (fun acc kv => putW acc kv.1 kv.2) kvs
def dictW : W → Store → R W
  | .lst xs, st => match pairsOf xs with
    | some kvs => .ok (.dct (mergeW [] kvs)) st
    | none => .no
  | _, _ => .no

section
variable {K : PySem.W.Frag}
theorem ok_same {c : Cf} {st st' : Store} {w : W} {v : V} {Q : VK} (s : StR K c st) (wf : Wf c) (e : st' = st) (r : RepC K c w v) (q : ∀ v c', Ext true c c' st st' → StR K c' st' → Wf c' → RepC K c' w v → Q v c'.H) : Q v c.H := by
  subst e
  exact q v c (Ext.refl ..) s wf r
theorem b_len : Cb1 K (fun xs H Q => ∃ x n, xs = [x] ∧ LenV K x H n ∧ Q (.int n) H) lenW := by
  intro c st x vx w st' Q s wf rx e q
  unfold lenW at e
  split at e <;> cases e
  · obtain ⟨a, vs, rfl, h1, r, _⟩ := rx.asT
    exact ⟨_, _, rfl, .inr ⟨vs, h1, r.length⟩, ok_same s wf rfl (.int _) q⟩
  · obtain ⟨a, vs, rfl, h1, r, _⟩ := rx.asL
    exact ⟨_, _, rfl, .inl ⟨vs, SqL.of h1, r.length⟩, ok_same s wf rfl (.int _) q⟩
  · obtain ⟨rfl, h1, h2⟩ := rx.asS
    exact ⟨_, _, rfl, ⟨by rw [lim_eq]; exact h2, rfl⟩, ok_same s wf rfl (.int _) q⟩
  · cases rx with
    | of r => cases r with
      | scr hs _ => exact ⟨_, _, rfl, .inl ⟨_, sqL_mono fz_sub hs, by rw [List.length_map]⟩, ok_same s wf rfl (.int _) q⟩
theorem b_abs : Cb1 K (fun xs H Q => ∃ i, xs = [.int i] ∧ Q (.int (if i < 0 then -i else i)) H) absW := by
  intro c st x vx w st' Q s wf rx e q
  unfold absW at e
  split at e <;> cases e
  exact ⟨_, by rw [rx.asI], ok_same s wf rfl (.int _) q⟩
theorem b_int : Cb1 K (fun xs H Q => (∃ i, xs = [.int i] ∧ Q (.int i) H) ∨ ∃ k, xs = [.bl k] ∧ Q (.int (if k then 1 else 0)) H) intW := by
  intro c st x vx w st' Q s wf rx e q
  unfold intW at e
  split at e <;> cases e
  · exact .inl ⟨_, by rw [rx.asI], ok_same s wf rfl (.int _) q⟩
  · exact .inr ⟨_, by rw [rx.asB], ok_same s wf rfl (.int _) q⟩
theorem b_sum : Cb1 K (rSum K) sumW := by
  intro c st x vx w st' Q s wf rx e q
  unfold sumW at e
  split at e
  · split at e <;> cases e
    rename_i ns hn
    obtain ⟨a, vs, rfl, h1, r, _⟩ := rx.asL
    rw [intsOf_eq hn] at r
    rw [r.ints] at h1
    exact ⟨a, ns, rfl, SqL.of h1, ok_same s wf rfl (.int _) q⟩
  · cases e
theorem maxI_spec : ∀ {ns : List Int} {m : Int}, m ∈ ns → (∀ y, y ∈ ns → y ≤ m) → m = maxI ns
  | [], _, h, _ => by cases h
  | [x], m, h, _ => by rw [List.mem_singleton.mp h]; rfl
  | x :: y :: r, m, h, u => by
    have hx := u x List.mem_cons_self
    show m = max x (maxI (y :: r))
    by_cases hm : m ∈ y :: r
    · have := maxI_spec hm fun z hz => u z (List.mem_cons_of_mem _ hz)
      rw [← this]; omega
    · have e : m = x := by
        rcases List.mem_cons.mp h with e | e
        · exact e
        · exact absurd e hm
      have : maxI (y :: r) ≤ m := by
        have mem : ∀ l : List Int, l ≠ [] → maxI l ∈ l := by
          intro l
          induction l with
          | nil => intro z; exact absurd rfl z
          | cons a t ih =>
            intro _
            cases t with
            | nil => exact List.mem_singleton.mpr rfl
            | cons b t =>
              show max a (maxI (b :: t)) ∈ _
              have := ih (by simp)
              rcases Int.le_total a (maxI (b :: t)) with z | z
              · rw [Int.max_eq_right z]; exact List.mem_cons_of_mem _ this
              · rw [Int.max_eq_left z]; exact List.mem_cons_self
        exact u _ (List.mem_cons_of_mem _ (mem _ (by simp)))
      omega
theorem minI_spec : ∀ {ns : List Int} {m : Int}, m ∈ ns → (∀ y, y ∈ ns → m ≤ y) → m = minI ns
  | [], _, h, _ => by cases h
  | [x], m, h, _ => by rw [List.mem_singleton.mp h]; rfl
  | x :: y :: r, m, h, u => by
    have hx := u x List.mem_cons_self
    show m = min x (minI (y :: r))
    by_cases hm : m ∈ y :: r
    · have := minI_spec hm fun z hz => u z (List.mem_cons_of_mem _ hz)
      rw [← this]; omega
    · have e : m = x := by
        rcases List.mem_cons.mp h with e | e
        · exact e
        · exact absurd e hm
      have : m ≤ minI (y :: r) := by
        have mem : ∀ l : List Int, l ≠ [] → minI l ∈ l := by
          intro l
          induction l with
          | nil => intro z; exact absurd rfl z
          | cons a t ih =>
            intro _
            cases t with
            | nil => exact List.mem_singleton.mpr rfl
            | cons b t =>
              show min a (minI (b :: t)) ∈ _
              have := ih (by simp)
              rcases Int.le_total a (minI (b :: t)) with z | z
              · rw [Int.min_eq_left z]; exact List.mem_cons_self
              · rw [Int.min_eq_right z]; exact List.mem_cons_of_mem _ this
        exact u _ (List.mem_cons_of_mem _ (mem _ (by simp)))
      omega
theorem b_max : Cb1 K (rMax K) maxW := by
  intro c st x vx w st' Q s wf rx e q
  unfold maxW at e
  split at e
  · split at e <;> cases e
    rename_i n ns hn
    obtain ⟨a, vs, rfl, h1, r, _⟩ := rx.asL
    rw [intsOf_eq hn] at r
    rw [r.ints] at h1
    refine ⟨a, n :: ns, rfl, SqL.of h1, by simp, fun m h2 h3 => ?_⟩
    rw [maxI_spec h2 h3]
    exact ok_same s wf rfl (.int _) q
  · cases e
theorem b_min : Cb1 K (rMin K) minW := by
  intro c st x vx w st' Q s wf rx e q
  unfold minW at e
  split at e
  · split at e <;> cases e
    rename_i n ns hn
    obtain ⟨a, vs, rfl, h1, r, _⟩ := rx.asL
    rw [intsOf_eq hn] at r
    rw [r.ints] at h1
    refine ⟨a, n :: ns, rfl, SqL.of h1, by simp, fun m h2 h3 => ?_⟩
    rw [minI_spec h2 h3]
    exact ok_same s wf rfl (.int _) q
  · cases e
theorem b_all : Cb1 K (rAll K) allW := by
  intro c st x vx w st' Q s wf rx e q
  unfold allW at e
  split at e
  · split at e <;> cases e
    rename_i ns hn
    obtain ⟨a, vs, rfl, h1, r, _⟩ := rx.asL
    rw [boolsOf_eq hn] at r
    rw [r.bools] at h1
    exact ⟨a, ns, rfl, SqL.of h1, ok_same s wf rfl (.bl _) q⟩
  · cases e
theorem b_any : Cb1 K (rAny K) anyW := by
  intro c st x vx w st' Q s wf rx e q
  unfold anyW at e
  split at e
  · split at e <;> cases e
    rename_i ns hn
    obtain ⟨a, vs, rfl, h1, r, _⟩ := rx.asL
    rw [boolsOf_eq hn] at r
    rw [r.bools] at h1
    exact ⟨a, ns, rfl, SqL.of h1, ok_same s wf rfl (.bl _) q⟩
  · cases e
theorem b_max2 : Cb2 K (fun xs H Q => ∃ i j, xs = [.int i, .int j] ∧ Q (.int (if j > i then j else i)) H) max2W := by
  intro c st x y vx vy w st' Q s wf rx ry e q
  unfold max2W at e
  split at e <;> cases e
  exact ⟨_, _, by rw [rx.asI, ry.asI], ok_same s wf rfl (.int _) q⟩
theorem b_min2 : Cb2 K (fun xs H Q => ∃ i j, xs = [.int i, .int j] ∧ Q (.int (if j < i then j else i)) H) min2W := by
  intro c st x y vx vy w st' Q s wf rx ry e q
  unfold min2W at e
  split at e <;> cases e
  exact ⟨_, _, by rw [rx.asI, ry.asI], ok_same s wf rfl (.int _) q⟩
def rSortDI : List V → Hp → VK → Prop := fun xs H Q => ∃ (a : Addr) (kvs : List (Key × V)) (ks : List Int), xs = [.ref a] ∧ Rd H a (.dK kvs) ∧ kvs.map (·.1) = ks.map Sum.inl ∧ ks.length < 64 ∧
    ∀ (ys : List Int) (p : Addr), ys.Perm ks → ys.Pairwise (· ≤ ·) → H p = none → Q (.ref p) (upd H p (.lst (ys.map V.int)))
theorem ok_lst {c : Cf} {st st' : Store} {ns : List Int} {p : Addr} {Q : VK} (s : StR K c st) (wf : Wf c) (e : st' = st) (hp : c.H p = none) (hz : ns.length ≤ LIM) (q : ∀ v c', Ext true c c' st st' → StR K c' st' → Wf c' → RepC K c' (.lst (ns.map .int)) v → Q v c'.H) :
    Q (.ref p) (upd c.H p (.lst (ns.map V.int))) := by
  subst e
  obtain ⟨x4, s4, w4, f4⟩ := alloc K st' (.lst (ns.map V.int)) wf hp
  exact q _ _ x4 (s4 s) w4 (.lst f4 (repL_ints ns) (by rw [List.length_map]; exact hz))
theorem b_sorted : Cb1 K (fun xs H Q => rSortedI K xs H Q ∨ rSortDI xs H Q) sortedW := by
  intro c st x vx w st' Q s wf rx e q
  unfold sortedW at e
  split at e
  · split at e <;> cases e
    rename_i ns hn
    obtain ⟨a, vs, rfl, h1, r, z⟩ := rx.asL
    have hl : ns.length ≤ LIM := by rw [intsOf_eq hn, List.length_map] at z; exact z
    rw [intsOf_eq hn] at r
    rw [r.ints] at h1
    refine .inl ⟨a, ns, rfl, SqL.of h1, fun ns' p h2 h3 hp => ?_⟩
    rw [sortI_unique h2 h3]
    exact ok_lst s wf rfl hp (by rw [sortI_length]; exact hl) q
  · split at e
    · split at e <;> cases e
      rename_i ns hn h64
      obtain ⟨a, vs, rfl, h1, r, z⟩ := rx.asD
      refine .inr ⟨a, vs, ns, rfl, h1, by rw [← r.keys, keysI_eq hn], h64, fun ys p h2 h3 hp => ?_⟩
      rw [sortI_unique h2 h3]
      exact ok_lst s wf rfl hp (by rw [sortI_length]; exact Nat.le_trans (Nat.le_of_lt h64) (by decide)) q
    · cases e
  · cases e
theorem b_tuple : Cb1 K (fun xs H Q => ∃ p ys, xs = [.ref p] ∧ ((SqL K H p ys ∧ ∀ l, H l = none → Q (.ref l) (upd H l (.tup ys))) ∨ (SqT K H p ys ∧ Q (.ref p) H))) tupleW := by
  intro c st x vx w st' Q s wf rx e q
  unfold tupleW at e
  split at e <;> cases e
  · obtain ⟨a, vs, rfl, h1, r, z⟩ := rx.asL
    refine ⟨a, vs, rfl, .inl ⟨SqL.of h1, fun p hp => ?_⟩⟩
    obtain ⟨x4, s4, w4, f4⟩ := alloc K _ (.tup vs) wf hp
    exact q _ _ x4 (s4 s) w4 (.tup (.inl (.inl f4)) (x4.repL r) z)
  · obtain ⟨a, vs, rfl, h1, r, z, whole⟩ := rx.asT
    exact ⟨a, vs, rfl, .inr ⟨h1, ok_same s wf rfl whole q⟩⟩
def rListDK : List V → Hp → VK → Prop := fun xs H Q => ∃ (a : Addr) (kvs : List (Key × V)), xs = [.ref a] ∧ Rd H a (.dK kvs) ∧ ∀ p, H p = none → Q (.ref p) (upd H p (.lst (kvs.map fun kv => kV kv.1)))
theorem keys_kV : ∀ {kvs : List (Key × V)} {ns : List Int}, kvs.map (·.1) = ns.map Sum.inl → (kvs.map fun kv => kV kv.1) = ns.map V.int
  | [], [], _ => rfl
  | [], _ :: _, h => by simp at h
  | _ :: _, [], h => by simp at h
  | (k, v) :: r, n :: ns, h => by
    rw [List.map_cons, List.map_cons, List.cons.injEq] at h
    obtain ⟨h1, h2⟩ := h
    have h1 : k = Sum.inl n := h1
    rw [List.map_cons, List.map_cons, keys_kV h2, h1]
    rfl
theorem b_list : Cb1 K (fun xs H Q => (∃ p ys, xs = [.ref p] ∧ (SqL K H p ys ∨ SqT K H p ys) ∧ ∀ l, H l = none → Q (.ref l) (upd H l (.lst ys))) ∨ rListDK xs H Q) listW := by
  intro c st x vx w st' Q s wf rx e q
  unfold listW at e
  split at e
  · cases e
    obtain ⟨a, vs, rfl, h1, r, z⟩ := rx.asL
    refine .inl ⟨a, vs, rfl, .inl (SqL.of h1), fun p hp => ?_⟩
    obtain ⟨x4, s4, w4, f4⟩ := alloc K _ (.lst vs) wf hp
    exact q _ _ x4 (s4 s) w4 (.lst f4 (x4.repL r) z)
  · cases e
    obtain ⟨a, vs, rfl, h1, r, z, _⟩ := rx.asT
    refine .inl ⟨a, vs, rfl, .inr h1, fun p hp => ?_⟩
    obtain ⟨x4, s4, w4, f4⟩ := alloc K _ (.lst vs) wf hp
    exact q _ _ x4 (s4 s) w4 (.lst f4 (x4.repL r) z)
  · split at e <;> cases e
    rename_i ns hn
    obtain ⟨a, vs, rfl, h1, r, z⟩ := rx.asD
    refine .inr ⟨a, vs, rfl, h1, fun p hp => ?_⟩
    rw [keys_kV (show vs.map (·.1) = ns.map Sum.inl by rw [← r.keys, keysI_eq hn])]
    refine ok_lst s wf rfl hp ?_ q
    have := congrArg List.length (keysI_eq hn)
    rw [List.length_map, List.length_map] at this
    rw [← this]; exact z
  · cases e
end
end Cr
/-! Cr7: new lists and dicts of a slot's own; statements. -/
namespace Cr
open PySem PySem.Spec PyProof.Rows L2

/-! ### keeping -/
section
variable {K : PySem.W.Frag} {m : Bool} {c c1 : Cf} {st : Store} {env : Env} {σ : L2.St}
/-- frozen things stand -/
def Frz (c c1 : Cf) : Prop := ∀ a o, c.ow a = none → c.H a = some o → c1.ow a = none ∧ c1.H a = some o
theorem StR.keep (s : StR K c st) (hf : Frz c c1) (e : c1.ρ = c.ρ) (ho : ∀ a n, c.ow a = some (.obj n) → c1.ow a = some (.obj n) ∧ c1.H a = c.H a)
    (hp : ∀ a n f, c.ow a = some (.fld n f) → c1.ow a = some (.fld n f) ∧ c1.H a = c.H a) : StR K c1 st := by
  refine ⟨s.len.trans (by rw [e]), fun n ob q => ?_⟩
  obtain ⟨a, h1, h2⟩ := s.at_ n ob q
  refine ⟨a, by rw [e]; exact h1, ?_⟩
  cases h2 with
  | dict e1 e2 e3 r =>
    obtain ⟨x, y⟩ := ho _ _ e2
    exact .dict e1 x (y.trans e3) (r.keep hf (fun n a z => by rw [e]; exact z) fun a f z => hp a _ f z)
theorem EnvR.put {i : Nat} {o : O} {v : V} (E : EnvR K c env σ) (h : Hd K c1 (.env i) o v) (hf : Frz c c1) (hl : ∀ (n : Nat) (a : Addr), c.ρ[n]? = some a → c1.ρ[n]? = some a)
    (hp : ∀ j a, j ≠ i → c.ow a = some (.env j) → c1.ow a = some (.env j) ∧ c1.H a = c.H a) : EnvR K c1 (env.set i (some o)) (σ.set i (some v)) := by
  refine ⟨by rw [List.length_set, List.length_set]; exact E.len, fun j u hj => ?_⟩
  by_cases e : j = i
  · subst e
    have hlt : j < env.length := by
      have := (List.getElem?_eq_some_iff.mp hj).1
      rwa [List.length_set] at this
    rw [List.getElem?_set_self hlt] at hj
    cases hj
    exact ⟨v, List.getElem?_set_self (by rw [← E.len]; exact hlt), h⟩
  · rw [List.getElem?_set_ne (Ne.symm e)] at hj
    obtain ⟨v', h1, h2⟩ := E.at_ j u hj
    exact ⟨v', by rw [List.getElem?_set_ne (Ne.symm e)]; exact h1, h2.keep hf hl fun a q => hp j a e q⟩
theorem EnvR.mut {i : Nat} {o : O} {v : V} (E : EnvR K c env σ) (hv : σ[i]? = some (some v)) (h : Hd K c1 (.env i) o v) (hf : Frz c c1) (hl : ∀ (n : Nat) (a : Addr), c.ρ[n]? = some a → c1.ρ[n]? = some a)
    (hp : ∀ j a, j ≠ i → c.ow a = some (.env j) → c1.ow a = some (.env j) ∧ c1.H a = c.H a) : EnvR K c1 (env.set i (some o)) σ := by
  have := E.put h hf hl hp
  rwa [show σ.set i (some v) = σ by
    refine List.ext_getElem? fun j => ?_
    by_cases e : j = i
    · subst e
      have hlt := (List.getElem?_eq_some_iff.mp hv).1
      rw [List.getElem?_set_self hlt, hv]
    · rw [List.getElem?_set_ne (Ne.symm e)]] at this
/-- a slot's name is forgotten, or looked at as frozen -/
theorem EnvR.sub {env' : Env} (E : EnvR K c env σ) (hl : env'.length = env.length) (h : ∀ (i : Nat) (o : O), env'[i]? = some (some o) → env[i]? = some (some o)) : EnvR K c env' σ :=
  ⟨hl.trans E.len, fun i o e => E.at_ i o (h i o e)⟩

def updW (ow : Ow) (p : Addr) (q : Option Place) : Ow := fun a => if a = p then q else ow a
theorem updW_same {ow : Ow} {p : Addr} {q : Option Place} : updW ow p q p = q := by unfold updW; rw [if_pos rfl]
theorem updW_ne {ow : Ow} {p a : Addr} {q : Option Place} (h : a ≠ p) : updW ow p q a = ow a := by unfold updW; rw [if_neg h]
/-- a new thing of a place's own -/
def Cf.new (c : Cf) (p : Addr) (q : Place) (o : HO) : Cf := ⟨updW c.ow p (some q), upd c.H p o, c.ρ⟩
theorem Cf.new_frz {c : Cf} {p : Addr} {q : Place} {o : HO} (wf : Wf c) (hp : c.H p = none) : Frz c (c.new p q o) := fun a u h e => by
  have ne : a ≠ p := ne_of_none e hp
  exact ⟨by show updW _ _ _ _ = _; rw [updW_ne ne]; exact h, by show upd _ _ _ _ = _; rw [upd_ne ne]; exact e⟩
theorem Cf.new_own {c : Cf} {p : Addr} {q : Place} {o : HO} (wf : Wf c) (hp : c.H p = none) {a : Addr} {r : Place} (h : c.ow a = some r) : (c.new p q o).ow a = some r ∧ (c.new p q o).H a = c.H a := by
  obtain ⟨u, e⟩ := wf a r h
  have ne : a ≠ p := ne_of_none e hp
  exact ⟨by show updW _ _ _ _ = _; rw [updW_ne ne]; exact h, by show upd _ _ _ _ = _; rw [upd_ne ne]⟩
theorem Cf.new_wf {c : Cf} {p : Addr} {q : Place} {o : HO} (wf : Wf c) (hp : c.H p = none) : Wf (c.new p q o) := fun a r h => by
  by_cases e : a = p
  · subst e; exact ⟨o, upd_same⟩
  · have h' : c.ow a = some r := by
      have h : updW c.ow p (some q) a = some r := h
      rwa [updW_ne e] at h
    obtain ⟨u, hu⟩ := wf a r h'
    exact ⟨u, by show upd _ _ _ _ = _; rw [upd_ne e]; exact hu⟩
theorem Cf.new_st {c : Cf} {p : Addr} {q : Place} {o : HO} (wf : Wf c) (hp : c.H p = none) (s : StR K c st) : StR K (c.new p q o) st :=
  s.keep (Cf.new_frz wf hp) rfl (fun _ _ h => Cf.new_own wf hp h) fun _ _ _ h => Cf.new_own wf hp h
theorem Cf.new_exs {c : Cf} {p : Addr} {q : Place} {o : HO} (wf : Wf c) (hp : c.H p = none) : ExS c (c.new p q o) := ⟨Cf.new_frz wf hp, fun _ h => Cf.new_own wf hp h, fun _ _ h => h⟩
/-- a place's own thing is written -/
def Cf.wr (c : Cf) (a : Addr) (o : HO) : Cf := ⟨c.ow, upd c.H a o, c.ρ⟩
theorem Cf.wr_frz {c : Cf} {p : Addr} {q : Place} {o : HO} (h : c.ow p = some q) : Frz c (c.wr p o) := fun a u h1 e => by
  have ne : a ≠ p := fun z => by rw [z, h] at h1; cases h1
  exact ⟨h1, by show upd _ _ _ _ = _; rw [upd_ne ne]; exact e⟩
theorem Cf.wr_own {c : Cf} {p : Addr} {q : Place} {o : HO} (h : c.ow p = some q) {a : Addr} {r : Place} (h1 : c.ow a = some r) (hr : r ≠ q) : (c.wr p o).ow a = some r ∧ (c.wr p o).H a = c.H a := by
  have ne : a ≠ p := fun z => by rw [z, h] at h1; cases h1; exact hr rfl
  exact ⟨h1, by show upd _ _ _ _ = _; rw [upd_ne ne]⟩
theorem Cf.wr_wf {c : Cf} {p : Addr} {o : HO} (wf : Wf c) : Wf (c.wr p o) := fun a r h => by
  by_cases e : a = p
  · subst e; exact ⟨o, upd_same⟩
  · obtain ⟨u, hu⟩ := wf a r h
    exact ⟨u, by show upd _ _ _ _ = _; rw [upd_ne e]; exact hu⟩
theorem Cf.wr_st {c : Cf} {p : Addr} {i : Nat} {o : HO} (h : c.ow p = some (.env i)) (s : StR K c st) : StR K (c.wr p o) st :=
  s.keep (Cf.wr_frz h) rfl (fun _ _ h1 => Cf.wr_own h h1 (fun z => by cases z)) (fun _ _ _ h1 => Cf.wr_own h h1 (fun z => by cases z))
theorem Cf.wr_exs {c : Cf} {p : Addr} {i : Nat} {o : HO} (h : c.ow p = some (.env i)) : ExS c (c.wr p o) := ⟨Cf.wr_frz h, fun _ h1 => Cf.wr_own h h1 (fun z => by cases z), fun _ _ h => h⟩
end

/-! ### new things -/
abbrev Nf := Env → Store → R O
def tNf (K : PySem.W.Frag) (m : Bool) (f : Nf) : TE := fun σ H Q => ∃ ow ρ env st, Sm K ⟨ow, H, ρ⟩ env st σ ∧ ∃ o st', f env st = .ok o st' ∧
  match o with
  | .ol ws => ∀ vs c1 p, Ext m ⟨ow, H, ρ⟩ c1 st st' → StR K c1 st' → Wf c1 → c1.H p = none → RepLC K c1 ws vs → ws.length ≤ LIM → Q (.ref p) (upd c1.H p (.lst vs))
  | .od ws => ∀ vs c1 p, Ext m ⟨ow, H, ρ⟩ c1 st st' → StR K c1 st' → Wf c1 → c1.H p = none → RepD K c1.fz c1.ρ ws vs → ws.length ≤ LIM → Q (.ref p) (upd c1.H p (.dK vs))
  | .ot ws => ∀ vs c1 p, Ext m ⟨ow, H, ρ⟩ c1 st st' → StR K c1 st' → Wf c1 → c1.H p = none → RepT K c1.fz c1.ρ ws vs → ws.length ≤ LIM → Q (.ref p) (upd c1.H p (.dT vs))
  | _ => False
structure NV (m : Bool) (X : Cx) (e : Expr) (f : Nf) : Prop where
  pe : PE X e (tNf X.K m f)
/-- it stands for ever -/
def frz_ (f : Nf) : Ef := fun env st => (f env st).bind fun o st1 => match o with
  | .od ws => .ok (.dct ws) st1
  | .ot ws => .ok (.dtt ws) st1
  | _ => .no
def frzL_ (f : Nf) : Ef := fun env st => (f env st).bind fun o st1 => match o with
  | .ol ws => .ok (.lst ws) st1
  | _ => .no
def olst_ (f : Af) : Nf := fun env st => (f env st).bind fun xs st1 => if xs.length ≤ LIM then .ok (.ol xs) st1 else .no
def odct_ : Nf := fun _ st => .ok (.od []) st
def odtt_ : Nf := fun _ st => .ok (.ot []) st
/-- of a value that is a new list -/
def new_ (f : Ef) : Nf := fun env st => (f env st).bind fun x st1 => match x with
  | .lst xs => .ok (.ol xs) st1
  | _ => .no
section
variable {X : Cx} {m : Bool} {a b e : Expr} {es : List Expr} {fa fb : Ef} {fr : Af} {f : Nf} {pos p : Pos}
theorem n_lst (h : AV m X es fr) : NV m X (.List es pos) (olst_ fr) := by
  refine ⟨(pe_lst h.pa).imp ?_⟩
  rintro σ H Q ⟨ow, ρ, env, st, S, o, st', e, q⟩
  obtain ⟨xs, st1, e1, e⟩ := R.bind_ok e
  refine ⟨ow, ρ, env, st, S, xs, st1, e1, fun vs c1 x1 s1 w1 r1 => ?_⟩
  split at e <;> cases e
  rename_i hz
  exact ⟨by rw [lim_eq, ← r1.length]; exact hz, fun p hp => q vs c1 p x1 s1 w1 hp r1 hz⟩
theorem n_dct : NV m X (.Dict [] [] pos) odct_ := by
  refine ⟨PE.imp pe_dnewK ?_⟩
  rintro σ H Q ⟨ow, ρ, env, st, S, o, st', e, q⟩
  cases e
  intro d hd
  exact q [] ⟨ow, H, ρ⟩ d (Ext.refl ..) S.s S.wf hd .nil (Nat.zero_le _)
theorem n_dtt : NV m X (.Dict [] [] pos) odtt_ := by
  refine ⟨PE.imp pe_dnewT ?_⟩
  rintro σ H Q ⟨ow, ρ, env, st, S, o, st', e, q⟩
  cases e
  intro d hd
  exact q [] ⟨ow, H, ρ⟩ d (Ext.refl ..) S.s S.wf hd .nil (Nat.zero_le _)
/-- list(x) -/
theorem n_list {x : Str} (hc : X.calm = true) (gl : Gl X "list") (hm : X.mg "list" = none) (ha : OV m true X a fa)
    (hs : starEach [a] X.env = (false, eval a X.env) :: starEach [] X.env := by rfl) : NV m X (.Call (.Name "list" p) [a] [] pos) (new_ (un listW fa)) := by
  refine ⟨(pe_callTy ((CallR.or call_list_of (call_listD hc)) : CallR X (.type "list") _) gl hm boot_list (pa_cons ha.pe pa_nil hs) (by decide) (by decide) hs).imp ?_⟩
  rintro σ H Q ⟨ow, ρ, env, st, S, w, st', e, q⟩
  obtain ⟨y, st2, e, e2⟩ := R.bind_ok e
  obtain ⟨x, st1, e1, e⟩ := R.bind_ok e
  refine ⟨ow, ρ, env, st, S, x, st1, e1, fun vx c1 x1 s1 w1 r1 k1 => ?_⟩
  unfold listW at e
  split at e
  · cases e; cases e2
    obtain ⟨a, vs, rfl, h1, r, z⟩ := r1.asL
    exact .inl ⟨a, vs, rfl, .inl (SqL.of h1), fun p hp => q vs c1 p x1 s1 w1 hp r z⟩
  · cases e; cases e2
    obtain ⟨a, vs, rfl, h1, r, z, _⟩ := r1.asT
    exact .inl ⟨a, vs, rfl, .inr h1, fun p hp => q vs c1 p x1 s1 w1 hp r z⟩
  · split at e <;> cases e
    rename_i ns hn
    cases e2
    obtain ⟨a, vs, rfl, h1, r, z⟩ := r1.asD
    refine .inr ⟨a, vs, rfl, h1, fun p hp => ?_⟩
    rw [keys_kV (show vs.map (·.1) = ns.map Sum.inl by rw [← r.keys, keysI_eq hn])]
    refine q _ c1 p x1 s1 w1 hp (repL_ints ns) ?_
    have := congrArg List.length (keysI_eq hn)
    rw [List.length_map, List.length_map] at this
    rw [List.length_map, ← this]; exact z
  · cases e
/-- a list times a number -/
theorem n_mul (ha : EV m X a fa) (hb : EV m X b fb) : NV m X (.BinOp a .Mult b pos) (new_ (bin mulW fa fb)) := by
  refine ⟨(pe_op op_rep ha.pe hb.pe).imp ?_⟩
  rintro σ H Q ⟨ow, ρ, env, st, S, w, st', e, q⟩
  obtain ⟨z, st3, e0, e2⟩ := R.bind_ok e
  obtain ⟨x, st1, e1, e4⟩ := R.bind_ok e0
  obtain ⟨y, st2, e3, e⟩ := R.bind_ok e4
  clear e0 e4
  refine ⟨ow, ρ, env, st, S, x, st1, e1, fun vx c1 x1 s1 w1 r1 => ?_⟩
  refine ⟨c1.ow, c1.ρ, env, st1, S.ext x1 s1 w1, y, st2, e3, fun vy c2 x2 s2 w2 r2 => ?_⟩
  have r1 := x2.rep r1
  clear e1 e3
  unfold mulW at e
  split at e
  · split at e <;> cases e
    cases e2
  · split at e <;> cases e
    cases e2
    rename_i h
    cases r1 with
    | lst h1 rl z1 =>
      cases r2
      rename_i a vs
      obtain ⟨hz, k1, k2⟩ := h
      have l1 := rl.length
      refine ⟨a, _, vs, rfl, rfl, (Cf.of_fz h1).2, by omega, by omega, by rw [lim_eq, ← l1]; exact hz, fun p hp => ?_⟩
      refine q _ c2 p (x1.trans x2) s2 w2 hp (rl.rep _) ?_
      rw [List.length_flatten, List.map_replicate, List.sum_replicate_nat, Nat.mul_comm]
      exact hz
  · cases e
/-- dict(a list of pairs) -/
def odictP_ (fa : Ef) : Nf := fun env st => (fa env st).bind fun x st1 => match x with
  | .lst xs => match pairsOf xs with
    | some kvs => .ok (.od (mergeW [] kvs)) st1
    | none => .no
  | _ => .no
theorem pairs_rep {K : PySem.W.Frag} {c : Cf} : ∀ {ws : List W} {vs : List V} {kvs : List (Key × W)}, RepLC K c ws vs → pairsOf ws = some kvs →
    ∃ (ps : List Addr) (us : List (Key × V)), vs = ps.map V.ref ∧ Paired (fun p kv => SqT K c.H p [kV kv.1, kv.2]) ps us ∧ RepD K c.fz c.ρ kvs us ∧ kvs.length = ws.length
  | [], _, _, .nil, e => by cases e; exact ⟨[], [], rfl, .nil, .nil, rfl⟩
  | w :: ws, _, kvs, .cons q r, e => by
    unfold pairsOf at e
    split at e
    · rename_i heq; cases heq
    · rename_i k0 v0 rest heq
      rw [List.cons.injEq] at heq
      obtain ⟨rfl, rfl⟩ := heq
      split at e
      · rename_i k hk
        simp only [Option.map_eq_some_iff] at e
        obtain ⟨kr, h1, h2⟩ := e
        subst h2
        obtain ⟨ps, us, rfl, h3, h4, h5⟩ := pairs_rep r h1
        cases q with
        | @tup a0 _ _ hs hr _ =>
          cases hr with
          | @cons _ vk _ _ q1 hr =>
            cases hr with
            | @cons _ vv _ _ q2 hr =>
              cases hr
              have ek : vk = kV k := View.key (.of q1) hk
              subst ek
              exact ⟨a0 :: ps, (k, vv) :: us, rfl, .cons (sqT_mono fz_sub hs) h3, .cons q2 h4, by simp [h5]⟩
      · cases e
    · cases e
theorem mergeW_rep {K : PySem.W.Frag} {H : Hp} {ρ : List Addr} : ∀ {more : List (Key × W)} {mv : List (Key × V)} {kvs : List (Key × W)} {vs : List (Key × V)}, RepD K H ρ more mv → RepD K H ρ kvs vs → RepD K H ρ (mergeW kvs more) (mergeK vs mv)
  | _, _, _, _, .nil, s => s
  | _, _, kvs, vs, .cons (k := k) (w := w) (v := v) (ws := ws) (vs := us) q r, s => by
    show RepD K H ρ (mergeW (putW kvs k w) ws) (mergeK (putK vs k v) us)
    exact mergeW_rep r (RepD.put k q s)
theorem mergeW_length : ∀ (more kvs : List (Key × W)), (mergeW kvs more).length ≤ kvs.length + more.length
  | [], kvs => by show kvs.length ≤ _; simp
  | p :: more, kvs => by
    show (mergeW (putW kvs p.1 p.2) more).length ≤ _
    have h1 := mergeW_length more (putW kvs p.1 p.2)
    have h2 := putW_length p.1 p.2 kvs
    rw [List.length_cons]; omega
theorem n_dictP (hc : X.calm = true) (gl : Gl X "dict") (hm : X.mg "dict" = none) (ha : EV m X a fa)
    (hs : starEach [a] X.env = (false, eval a X.env) :: starEach [] X.env := by rfl) : NV m X (.Call (.Name "dict" p) [a] [] pos) (odictP_ fa) := by
  refine ⟨(pe_callTy (call_dictP hc) gl hm (by decide +kernel) (pa_cons ha.pe pa_nil hs) (by decide) (by decide) hs).imp ?_⟩
  rintro σ H Q ⟨ow, ρ, env, st, S, w, st', e, q⟩
  obtain ⟨x, st1, e1, e⟩ := R.bind_ok e
  refine ⟨ow, ρ, env, st, S, x, st1, e1, fun vx c1 x1 s1 w1 r1 => ?_⟩
  split at e
  · split at e <;> cases e
    rename_i kvs hk
    cases r1 with
    | lst h1 rl z =>
      obtain ⟨ps, us, rfl, h2, h3, h4⟩ := pairs_rep rl hk
      refine ⟨_, ps, us, rfl, SqL.of (Cf.of_fz h1).2, h2, fun p hp => ?_⟩
      refine q _ c1 p x1 s1 w1 hp (mergeW_rep h3 .nil) ?_
      have := mergeW_length kvs []
      rw [List.length_nil] at this
      omega
  · cases e
/-- a new list, a new dict as a value that stands for ever -/
theorem e_new (h : NV m X e f) : EV m X e (frz_ f) := by
  refine ⟨(PE.lock h.pe).imp ?_⟩
  rintro σ H Q ⟨ow, ρ, env, st, S, w, st', e, q⟩
  obtain ⟨o, st1, e1, e⟩ := R.bind_ok e
  refine ⟨ow, ρ, env, st, S, o, st1, e1, ?_⟩
  have key : ∀ (c1 : Cf) (p : Addr) (u : HO), Ext m ⟨ow, H, ρ⟩ c1 st st1 → StR X.K c1 st1 → Wf c1 → c1.H p = none → Mut (some u) → (∀ od v c', v = .ref p → Ext m ⟨ow, H, ρ⟩ c' st st1 → StR X.K c' st1 → Wf c' → c'.fz p = some (.frz od u) → Ext true c1 c' st1 st1 → c'.H = upd c1.H p (.frz od u) → Q v c'.H) →
      ∃ d u', upd c1.H p u d = some u' ∧ Mut (some u') ∧ ∀ od, Q (.ref p) (upd (upd c1.H p u) d (.frz od u')) := fun c1 p u x1 s1 w1 hp mu k => by
    refine ⟨p, u, upd_same, mu, fun od => ?_⟩
    rw [upd_upd]
    obtain ⟨x4, s4, w4, f4⟩ := alloc X.K st1 (.frz od u) w1 hp
    exact k od _ _ rfl (x1.trans x4.any) (s4 s1) w4 f4 x4 rfl
  split at e
  · cases e
    intro vs c1 p x1 s1 w1 hp r z
    exact key c1 p _ x1 s1 w1 hp trivial fun od v c' hv x s wf f4 x4 _ => by
      subst hv
      exact q _ c' x s wf (.dct f4 (r.mono (fz_le x4.frz) x4.loc) z)
  · cases e
    intro vs c1 p x1 s1 w1 hp r z
    exact key c1 p _ x1 s1 w1 hp trivial fun od v c' hv x s wf f4 x4 _ => by
      subst hv
      exact q _ c' x s wf (.dtt f4 (r.mono (fz_le x4.frz) x4.loc) z)
  · cases e
theorem e_newL (h : NV m X e f) : EV m X e (frzL_ f) := by
  refine ⟨h.pe.imp ?_⟩
  rintro σ H Q ⟨ow, ρ, env, st, S, w, st', e, q⟩
  obtain ⟨o, st1, e1, e⟩ := R.bind_ok e
  refine ⟨ow, ρ, env, st, S, o, st1, e1, ?_⟩
  split at e <;> cases e
  intro vs c1 p x1 s1 w1 hp r z
  obtain ⟨x4, s4, w4, f4⟩ := alloc X.K _ (.lst vs) w1 hp
  exact q _ _ (x1.trans x4.any) (s4 s1) w4 (.lst f4 (x4.repL r) z)
end
end Cr
/-! Cr8: targets, what is walked, comprehensions. -/
namespace Cr
open PySem PySem.Spec PyProof.Rows L2

/-! ### targets -/
abbrev Bf := W → Env → Option Env
abbrev Bfs := List W → Env → Option Env
/-- but for these slots the frames are alike -/
def Same_ (js : List Nat) (σ σ' : L2.St) : Prop := σ'.length = σ.length ∧ ∀ j, j ∉ js → σ'[j]? = σ[j]?
def tGf (K : PySem.W.Frag) (js : List Nat) (b : Bf) : TG := fun v σ H Q => ∃ ow ρ env w, EnvR K ⟨ow, H, ρ⟩ env σ ∧ RepC K ⟨ow, H, ρ⟩ w v ∧ ∃ env', b w env = some env' ∧
  ∀ σ', Same_ js σ σ' → EnvR K ⟨ow, H, ρ⟩ env' σ' → Q σ' H
def tGfs (K : PySem.W.Frag) (js : List Nat) (b : Bfs) : TGs := fun vs σ H Q => ∃ ow ρ env ws, EnvR K ⟨ow, H, ρ⟩ env σ ∧ RepLC K ⟨ow, H, ρ⟩ ws vs ∧ ∃ env', b ws env = some env' ∧
  ∀ σ', Same_ js σ σ' → EnvR K ⟨ow, H, ρ⟩ env' σ' → Q σ' H
structure GV (X : Cx) (tg : Expr) (js : List Nat) (b : Bf) : Prop where
  pg : PG X tg (tGf X.K js b)
structure GVs (X : Cx) (tg : List Expr) (js : List Nat) (b : Bfs) : Prop where
  pg : PGs X tg (tGfs X.K js b)
theorem PG.imp' {X : Cx} {e : Expr} {t t' : TG} (h : PG X e t) (i : ∀ v σ H Q, t' v σ H Q → t v σ H Q) : PG X e t' := ⟨fun pins s σ H v u Q I r q => h.run pins s σ H v u Q I r (i v σ H Q q)⟩
theorem PGs.imp' {X : Cx} {e : List Expr} {t t' : TGs} (h : PGs X e t) (i : ∀ v σ H Q, t' v σ H Q → t v σ H Q) : PGs X e t' := ⟨fun pins s σ H v u Q I r q => h.run pins s σ H v u Q I r (i v σ H Q q)⟩
def bN (i : Nat) : Bf := fun w env => some (env.set i (some (.w w)))
def bNil : Bfs := fun ws env => match ws with
  | [] => some env
  | _ => none
def bCons (b : Bf) (bs : Bfs) : Bfs := fun ws env => match ws with
  | w :: r => (b w env).bind fun env1 => bs r env1
  | [] => none
def bT (n : Nat) (bs : Bfs) : Bf := fun w env => match w with
  | .tup ws => if ws.length = n then bs ws env else none
  | _ => none
section
variable {X : Cx} {pos : Pos}
theorem Same_.refl (js : List Nat) (σ : L2.St) : Same_ js σ σ := ⟨rfl, fun _ _ => rfl⟩
theorem Same_.set (i : Nat) (σ : L2.St) (v : Option V) : Same_ [i] σ (σ.set i v) := ⟨List.length_set .., fun j hj => List.getElem?_set_ne (fun e => hj (by simp [e]))⟩
theorem g_n {i : Nat} {x : Str} (hN : X.N.Nodup) (hi : X.N[i]? = some x) (hx : Loc X.env.scope x) (hf : X.fn x = true ∨ X.env.scope.names.lookup x = some .local := by first | exact .inl rfl | exact .inr rfl | assumption) : GV X (.Name x pos) [i] (bN i) := by
  refine ⟨PG.imp' (pg_name hN hi hx hf) ?_⟩
  rintro v σ H Q ⟨ow, ρ, env, w, E, r, env', e, q⟩
  cases e
  exact q _ (Same_.set ..) (E.put ⟨.w r, trivial⟩ (fun _ _ h h' => ⟨h, h'⟩) (fun _ _ h => h) fun _ _ _ h => ⟨h, rfl⟩)
theorem g_nil : GVs X [] [] bNil := by
  refine ⟨PGs.imp' pgs_nil ?_⟩
  rintro v σ H Q ⟨ow, ρ, env, w, E, r, env', e, q⟩
  unfold bNil at e
  split at e <;> cases e
  cases r
  exact ⟨rfl, q _ (Same_.refl ..) E⟩
theorem g_cons {e : Expr} {es : List Expr} {j1 j2 : List Nat} {b : Bf} {bs : Bfs} (h1 : GV X e j1 b) (h2 : GVs X es j2 bs)
    (hs : (assignEach (e :: es) X.env).map (·.2) = assign e X.env :: (assignEach es X.env).map (·.2) := by rfl) : GVs X (e :: es) (j1 ++ j2) (bCons b bs) := by
  refine ⟨PGs.imp' (pgs_cons h1.pg h2.pg hs) ?_⟩
  rintro v σ H Q ⟨ow, ρ, env, w, E, r, env', e, q⟩
  unfold bCons at e
  split at e
  · rename_i w0 wr
    obtain ⟨env1, e1, e2⟩ := Option.bind_eq_some_iff.mp e
    cases r with
    | cons r1 r2 =>
      refine ⟨_, _, rfl, ow, ρ, env, w0, E, r1, env1, e1, fun σ1 s1 E1 => ?_⟩
      refine ⟨ow, ρ, env1, wr, E1, r2, env', e2, fun σ2 s2 E2 => q σ2 ⟨s2.1.trans s1.1, fun j hj => ?_⟩ E2⟩
      rw [List.mem_append, not_or] at hj
      exact (s2.2 j hj.2).trans (s1.2 j hj.1)
  · cases e
theorem g_t {es : List Expr} {k : Nat} {js : List Nat} {bs : Bfs} {n : Nat} (hc : X.calm = true) (h : GVs X es js bs)
    (hn : (assignEach es X.env).length = n := by rfl) (hst : (assignEach es X.env).findIdx? (·.1) = none := by rfl) : GV X (.Tuple es k pos) js (bT n bs) := by
  refine ⟨PG.imp' (pg_tup hc h.pg hn hst) ?_⟩
  rintro v σ H Q ⟨ow, ρ, env, w, E, r, env', e, q⟩
  unfold bT at e
  split at e
  · split at e
    · rename_i hl
      cases r with
      | tup h1 rl z => exact ⟨_, _, rfl, sqT_mono fz_sub h1, by rw [← rl.length]; exact hl, ow, ρ, env, _, E, rl, env', e, q⟩
    · cases e
  · cases e
end

/-! ### what is walked -/
/-- more things that stand for ever -/
structure Alc (K : PySem.W.Frag) (c c1 : Cf) : Prop where
  ext : ∀ st, Ext true c c1 st st
  str : ∀ st, StR K c st → StR K c1 st
  wf : Wf c1
theorem Alc.refl {K : PySem.W.Frag} {c : Cf} (wf : Wf c) : Alc K c c := ⟨fun st => Ext.refl .., fun _ s => s, wf⟩
def Feeds (K : PySem.W.Frag) (Rl : Cf → Cf → Prop) (J : It) (c : Cf) (ws : List W) : Prop := ∀ c1, Rl c c1 → Wf c1 →
  (∀ (i : Nat) (w : W), ws[i]? = some w → J.go i c1.H ∧ ∀ x H', J.yld i c1.H x H' → ∃ c2, c2.H = H' ∧ Alc K c1 c2 ∧ RepC K c2 w x) ∧ ∀ i : Nat, ws.length ≤ i → J.stop i c1.H
/-- behind expressions -/
def ExE (c c1 : Cf) : Prop := ∃ st st1, Ext false c c1 st st1
theorem ExE.s {c c1 : Cf} (h : ExE c c1) : ExS c c1 := let ⟨_, _, x⟩ := h; x.s
theorem Feeds.e {K : PySem.W.Frag} {J : It} {c : Cf} {ws : List W} (h : Feeds K ExS J c ws) : Feeds K ExE J c ws := fun c1 r => h c1 r.s
abbrev If := Env → Store → R (List W)
def tIf (K : PySem.W.Frag) (m : Bool) (Rl : Cf → Cf → Prop) (f : If) : TI := fun σ H R => ∃ ow ρ env st, Sm K ⟨ow, H, ρ⟩ env st σ ∧ ∃ ws st', f env st = .ok ws st' ∧
  ∀ J c', Ext m ⟨ow, H, ρ⟩ c' st st' → StR K c' st' → Wf c' → Feeds K Rl J c' ws → ws.length ≤ LIM → R J c'.H
structure IV (m : Bool) (Rl : Cf → Cf → Prop) (X : Cx) (tg e : Expr) (f : If) : Prop where
  pi : PI X tg e (tIf X.K m Rl f)
theorem PI.imp' {X : Cx} {tg e : Expr} {t t' : TI} (h : PI X tg e t) (i : ∀ σ H R, t' σ H R → t σ H R) : PI X tg e t' := ⟨fun pins s σ H R I q => h.run pins s σ H R I (i σ H R q)⟩
theorem PI.or {X : Cx} {tg e : Expr} {t t' : TI} (h : PI X tg e t) (h' : PI X tg e t') : PI X tg e (fun σ H R => t σ H R ∨ t' σ H R) :=
  ⟨fun pins s σ H R I q => q.elim (h.run pins s σ H R I) (h'.run pins s σ H R I)⟩
/-- the items of a value that is walked -/
def itemsW : W → Option (List W)
  | .tup ws => some ws
  | .lst ws => some ws
  | .dct kvs => (keysI kvs).map fun ns => ns.map .int
  | .str x => some (x.cps.toList.map fun c => .str ⟨#[c]⟩)
  | _ => none
def items_ (f : Ef) : If := fun env st => (f env st).bind fun x st1 => match itemsW x with
  | some ws => .ok ws st1
  | none => .no
section
variable {X : Cx} {m : Bool} {tg e : Expr} {f : Ef} {pos p : Pos}
theorem feeds_list {K : PySem.W.Frag} {Rl : Cf → Cf → Prop} {c : Cf} {a : Addr} {ws : List W} (h : ∀ c1, Rl c c1 → ∃ vs, SqL K c1.H a vs ∧ RepLC K c1 ws vs) : Feeds K Rl (Itl K a) c ws := fun c1 x wf => by
  obtain ⟨vs, h1, h2⟩ := h c1 x
  refine ⟨fun i w hi => ?_, fun i hi => ⟨vs, h1, by rw [← h2.length]; exact hi⟩⟩
  obtain ⟨v, h3, h4⟩ := h2.get hi
  refine ⟨⟨vs, v, h1, h3⟩, fun x H' ⟨e, y⟩ => ⟨c1, e.symm, Alc.refl wf, ?_⟩⟩
  have := y vs h1
  rw [h3] at this
  cases this
  exact h4
theorem feeds_tup {K : PySem.W.Frag} {Rl : Cf → Cf → Prop} {c : Cf} {a : Addr} {ws : List W} (h : ∀ c1, Rl c c1 → ∃ vs, SqT K c1.H a vs ∧ RepLC K c1 ws vs) : Feeds K Rl (Itt K a) c ws := fun c1 x wf => by
  obtain ⟨vs, h1, h2⟩ := h c1 x
  refine ⟨fun i w hi => ?_, fun i hi => ⟨vs, h1, by rw [← h2.length]; exact hi⟩⟩
  obtain ⟨v, h3, h4⟩ := h2.get hi
  refine ⟨⟨vs, v, h1, h3⟩, fun x H' ⟨e, y⟩ => ⟨c1, e.symm, Alc.refl wf, ?_⟩⟩
  have := y vs h1
  rw [h3] at this
  cases this
  exact h4
theorem keysI_at : ∀ {ws : List (Key × W)} {ns : List Int} {i : Nat} {n : Int}, keysI ws = some ns → ns[i]? = some n → ∃ w, ws[i]? = some (.inl n, w)
  | [], _, _, _, h, e => by cases h; simp at e
  | (.inr _, _) :: ws, _, _, _, h, e => by cases h
  | (.inl k, w) :: ws, ns, i, n, h, e => by
    simp only [keysI, Option.map_eq_some_iff] at h
    obtain ⟨r, h1, h2⟩ := h
    subst h2
    cases i with
    | zero => simp at e; subst e; exact ⟨w, rfl⟩
    | succ i =>
      obtain ⟨w', h3⟩ := keysI_at (i := i) h1 (by simpa using e)
      exact ⟨w', by simpa using h3⟩
theorem RepD.at_ {K : PySem.W.Frag} {H : Hp} {ρ : List Addr} : ∀ {ws : List (Key × W)} {vs : List (Key × V)} {i : Nat} {k : Key} {w : W}, RepD K H ρ ws vs → ws[i]? = some (k, w) → ∃ v, vs[i]? = some (k, v)
  | _, _, _, _, _, .nil, e => by simp at e
  | _, _, 0, _, _, .cons _ _, e => by simp at e; obtain ⟨rfl, rfl⟩ := e; exact ⟨_, rfl⟩
  | _, _, i + 1, _, _, .cons _ r, e => by
    obtain ⟨v, h⟩ := RepD.at_ (i := i) r (by simpa using e)
    exact ⟨v, by simpa using h⟩
theorem keysI_length {ws : List (Key × W)} {ns : List Int} (h : keysI ws = some ns) : ns.length = ws.length := by
  have := congrArg List.length (keysI_eq h)
  rw [List.length_map, List.length_map] at this
  exact this.symm
theorem feeds_keys {K : PySem.W.Frag} {Rl : Cf → Cf → Prop} {c : Cf} {d : Addr} {o : PySem.Obj} {ws : List (Key × W)} {vs : List (Key × V)} {ns : List Int} (hk : keysI ws = some ns) (h : ∀ c1, Rl c c1 → c1.H d = some (.frz o (.dK vs)) ∧ RepD K c1.fz c1.ρ ws vs) :
    Feeds K Rl (Itk d o vs) c (ns.map .int) := fun c1 x wf => by
  obtain ⟨h1, h2⟩ := h c1 x
  have hl := keysI_length hk
  have hl2 := h2.length
  refine ⟨fun i w hi => ?_, fun i hi => ⟨h1, by rw [List.length_map] at hi; omega⟩⟩
  rw [List.getElem?_map, Option.map_eq_some_iff] at hi
  obtain ⟨n, hn, rfl⟩ := hi
  obtain ⟨w', h3⟩ := keysI_at hk hn
  obtain ⟨v, h4⟩ := h2.at_ h3
  refine ⟨⟨h1, (List.getElem?_eq_some_iff.mp h4).1⟩, fun x H' ⟨e, k, v', y, ex⟩ => ⟨c1, e.symm, Alc.refl wf, ?_⟩⟩
  rw [h4] at y
  cases y
  subst ex
  exact .int n
theorem feeds_str {K : PySem.W.Frag} {Rl : Cf → Cf → Prop} {c : Cf} {x : Str} (ok : PyData.strOk x = true) : Feeds K Rl (Its x) c (x.cps.toList.map fun c => .str ⟨#[c]⟩) := fun c1 _ wf => by
  refine ⟨fun i w hi => ?_, fun i hi => by rw [List.length_map, Array.length_toList] at hi; exact hi⟩
  rw [List.getElem?_map, Option.map_eq_some_iff] at hi
  obtain ⟨n, hn, rfl⟩ := hi
  have hm : n ∈ x.cps.toList := List.mem_of_getElem? hn
  have hn' : x.cps[i]? = some n := by rw [← Array.getElem?_toList]; exact hn
  refine ⟨by
    obtain ⟨h, _⟩ := Array.getElem?_eq_some_iff.mp hn'
    exact h, fun y H' ⟨e, k, h1, h2⟩ => ⟨c1, e.symm, Alc.refl wf, ?_⟩⟩
  rw [hn'] at h1
  cases h1
  subst h2
  exact .str _ (strOk_one ok hm) (by show 1 ≤ LIM; decide)
abbrev iAll (K : PySem.W.Frag) (t : TE) : TI := fun σ H R => iList K t σ H R ∨ iTup K t σ H R ∨ iKeys t σ H R ∨ iStr t σ H R
theorem pi_all {te : TE} (h : PE X e te) : PI X tg e (iAll X.K te) := PI.or (pi_list h) (PI.or (pi_tup h) (PI.or (pi_keys h) (pi_str h)))
theorem i_val (h : EV m X e f) : IV m ExS X tg e (items_ f) := by
  refine ⟨PI.imp' (pi_all h.pe) ?_⟩
  rintro σ H Rr ⟨ow, ρ, env, st, S, ws, st', e, q⟩
  obtain ⟨w, st1, e1, e⟩ := R.bind_ok e
  split at e <;> cases e
  rename_i hw
  unfold itemsW at hw
  split at hw
  · cases hw
    refine .inr (.inl ⟨ow, ρ, env, st, S, _, _, e1, fun v c1 x s wf r => ?_⟩)
    cases r with
    | tup h1 rl z => exact ⟨_, rfl, ⟨_, sqT_mono fz_sub h1⟩, q _ c1 x s wf (feeds_tup fun c2 y => ⟨_, sqT_mono fz_sub (sqT_mono (fz_le y.frz) h1), y.repL rl⟩) z⟩
  · cases hw
    refine .inl ⟨ow, ρ, env, st, S, _, _, e1, fun v c1 x s wf r => ?_⟩
    cases r with
    | lst h1 rl z => exact ⟨_, rfl, ⟨_, SqL.of (Cf.of_fz h1).2⟩, q _ c1 x s wf (feeds_list fun c2 y => ⟨_, SqL.of (Cf.of_fz (fz_le y.frz _ _ h1)).2, y.repL rl⟩) z⟩
  · rename_i kvs
    simp only [Option.map_eq_some_iff] at hw
    obtain ⟨ns, hk, rfl⟩ := hw
    refine .inr (.inr (.inl ⟨ow, ρ, env, st, S, _, _, e1, fun v c1 x s wf r => ?_⟩))
    cases r with
    | dct h1 rl z =>
      refine ⟨_, _, rfl, .inl ⟨_, (Cf.of_fz h1).2, q _ c1 x s wf (feeds_keys hk fun c2 y => ⟨(Cf.of_fz (fz_le y.frz _ _ h1)).2, rl.mono (fz_le y.frz) y.loc⟩) ?_⟩⟩
      rw [List.length_map, keysI_length hk]; exact z
  · cases hw
    refine .inr (.inr (.inr ⟨ow, ρ, env, st, S, _, _, e1, fun v c1 x s wf r => ?_⟩))
    cases r with
    | str _ ok z => exact ⟨_, rfl, q _ c1 x s wf (feeds_str ok) (by rw [List.length_map, Array.length_toList]; exact z)⟩
  · cases hw
/-- .. of a thing looked at (no dict) -/
def itemsL (w : W) : Option (List W) := match w with
  | .dct _ => none
  | w => itemsW w
def looks_ (f : Ef) : If := fun env st => (f env st).bind fun x st1 => match itemsL x with
  | some ws => .ok ws st1
  | none => .no
theorem i_look (h : OV m false X e f) : IV m ExE X tg e (looks_ f) := by
  refine ⟨PI.imp' (pi_all h.pe) ?_⟩
  rintro σ H Rr ⟨ow, ρ, env, st, S, ws, st', e, q⟩
  obtain ⟨w, st1, e1, e⟩ := R.bind_ok e
  split at e <;> cases e
  rename_i hw
  unfold itemsL at hw
  split at hw
  · cases hw
  · unfold itemsW at hw
    split at hw
    · cases hw
      refine .inr (.inl ⟨ow, ρ, env, st, S, _, _, e1, fun v c1 x s wf r k => ?_⟩)
      obtain ⟨a, vs, rfl, h1, rl, z, _⟩ := r.asT
      refine ⟨_, rfl, ⟨_, h1⟩, q _ c1 x s wf (feeds_tup fun c2 ⟨_, _, y⟩ => ?_) z⟩
      obtain ⟨a', vs', ea, h2, rl', _, _⟩ := (k c2 _ (⟨y.frz, y.own, y.loc, fun h => nomatch h⟩ : Ext false c1 c2 st' st')).asT
      cases ea
      exact ⟨vs', h2, rl'⟩
    · cases hw
      refine .inl ⟨ow, ρ, env, st, S, _, _, e1, fun v c1 x s wf r k => ?_⟩
      obtain ⟨a, vs, rfl, h1, rl, z⟩ := r.asL
      refine ⟨_, rfl, ⟨_, SqL.of h1⟩, q _ c1 x s wf (feeds_list fun c2 ⟨_, _, y⟩ => ?_) z⟩
      obtain ⟨a', vs', ea, h2, rl', _⟩ := (k c2 _ (⟨y.frz, y.own, y.loc, fun h => nomatch h⟩ : Ext false c1 c2 st' st')).asL
      cases ea
      exact ⟨vs', SqL.of h2, rl'⟩
    · exfalso
      rename_i hd
      simp at hd
    · cases hw
      refine .inr (.inr (.inr ⟨ow, ρ, env, st, S, _, _, e1, fun v c1 x s wf r k => ?_⟩))
      obtain ⟨rfl, ok, z⟩ := r.asS
      exact ⟨_, rfl, q _ c1 x s wf (feeds_str ok) (by rw [List.length_map, Array.length_toList]; exact z)⟩
    · cases hw

/-! ### ranges -/
def rgW (lo : Int) (n : Nat) : List W := (List.range n).map fun i => .int (lo + (i : Nat))
def rgOk (lo hi : Int) : Bool := decide (-(2 ^ 62) ≤ lo ∧ lo < 2 ^ 62 ∧ -(2 ^ 62) ≤ hi ∧ hi < 2 ^ 62 ∧ (hi - lo).toNat ≤ LIM)
def rng1_ (f : Af) : If := fun env st => (f env st).bind fun xs st1 => match xs with
  | [.int n] => if rgOk 0 n then .ok (rgW 0 n.toNat) st1 else .no
  | _ => .no
def rng2_ (f : Af) : If := fun env st => (f env st).bind fun xs st1 => match xs with
  | [.int a, .int b] => if rgOk a b then .ok (rgW a (b - a).toNat) st1 else .no
  | _ => .no
/-- downward by ones -/
def rng3_ (f : Af) : If := fun env st => (f env st).bind fun xs st1 => match xs with
  | [.int a, .int b, .int (-1)] => if rgOk b a then .ok ((List.range (a - b).toNat).map fun i => .int (a - (i : Nat))) st1 else .no
  | _ => .no
theorem rgW_length (lo : Int) (n : Nat) : (rgW lo n).length = n := by unfold rgW; rw [List.length_map, List.length_range]
theorem feeds_rg {K : PySem.W.Frag} {Rl : Cf → Cf → Prop} {c : Cf} {lo : Int} {n : Nat} : Feeds K Rl (Itr lo n) c (rgW lo n) := fun c1 _ wf => by
  refine ⟨fun i w hi => ?_, fun i hi => by rw [rgW_length] at hi; exact hi⟩
  unfold rgW at hi
  rw [List.getElem?_map, Option.map_eq_some_iff] at hi
  obtain ⟨j, hj, rfl⟩ := hi
  obtain ⟨h1, h2⟩ := List.getElem?_eq_some_iff.mp hj
  rw [List.getElem_range] at h2
  subst h2
  rw [List.length_range] at h1
  exact ⟨h1, fun x H' ⟨e, ex⟩ => ⟨c1, e.symm, Alc.refl wf, by subst ex; exact .int _⟩⟩
theorem feeds_rgC {K : PySem.W.Frag} {Rl : Cf → Cf → Prop} {c : Cf} {a : Int} {n : Nat} : Feeds K Rl (Itc a (-1) n) c ((List.range n).map fun i => .int (a - (i : Nat))) := fun c1 _ wf => by
  refine ⟨fun i w hi => ?_, fun i hi => by rw [List.length_map, List.length_range] at hi; exact hi⟩
  rw [List.getElem?_map, Option.map_eq_some_iff] at hi
  obtain ⟨j, hj, rfl⟩ := hi
  obtain ⟨h1, h2⟩ := List.getElem?_eq_some_iff.mp hj
  rw [List.getElem_range] at h2
  subst h2
  rw [List.length_range] at h1
  refine ⟨h1, fun x H' ⟨e, ex⟩ => ⟨c1, e.symm, Alc.refl wf, ?_⟩⟩
  subst ex
  rw [show a + ((i : Nat) : Int) * -1 = a - (i : Nat) by omega]
  exact .int _
variable {a b d : Expr} {fr : Af}
theorem i_rng1 (hg : Gl X "range") (hm : X.mg "range" = none) (ha : AV m X [a] fr) (hs : starEach [a] X.env = [(false, eval a X.env)] := by rfl) : IV m ExS X tg (.Call (.Name "range" p) [a] [] pos) (rng1_ fr) := by
  refine ⟨PI.imp' (pi_range1 hg hm ha.pa hs) ?_⟩
  rintro σ H Rr ⟨ow, ρ, env, st, S, ws, st', e, q⟩
  obtain ⟨w, st1, e1, e⟩ := R.bind_ok e
  refine ⟨ow, ρ, env, st, S, _, _, e1, fun v c1 x s wf r => ?_⟩
  split at e
  · split at e <;> cases e
    rename_i h
    unfold rgOk at h
    simp only [decide_eq_true_eq] at h
    cases r with
    | cons r1 r2 =>
      cases r1; cases r2
      refine ⟨_, rfl, h.2.2.1, h.2.2.2.1, q _ c1 x s wf feeds_rg ?_⟩
      rw [rgW_length]; omega
  · cases e
theorem i_rng2 (hg : Gl X "range") (hm : X.mg "range" = none) (ha : AV m X [a, b] fr) (hs : starEach [a, b] X.env = [(false, eval a X.env), (false, eval b X.env)] := by rfl) (hs2 : starEach [b] X.env = [(false, eval b X.env)] := by rfl) : IV m ExS X tg (.Call (.Name "range" p) [a, b] [] pos) (rng2_ fr) := by
  refine ⟨PI.imp' (pi_range2 hg hm ha.pa hs hs2) ?_⟩
  rintro σ H Rr ⟨ow, ρ, env, st, S, ws, st', e, q⟩
  obtain ⟨w, st1, e1, e⟩ := R.bind_ok e
  refine ⟨ow, ρ, env, st, S, _, _, e1, fun v c1 x s wf r => ?_⟩
  split at e
  · split at e <;> cases e
    rename_i h
    unfold rgOk at h
    simp only [decide_eq_true_eq] at h
    cases r with
    | cons r1 r2 =>
      cases r1
      cases r2 with
      | cons r2 r3 =>
        cases r2; cases r3
        refine ⟨_, _, rfl, ⟨h.1, h.2.1, h.2.2.1, h.2.2.2.1⟩, q _ c1 x s wf feeds_rg ?_⟩
        rw [rgW_length]; exact h.2.2.2.2
  · cases e
theorem i_rng3 (hg : Gl X "range") (hm : X.mg "range" = none) (ha : AV m X [a, b, d] fr) (hs : starEach [a, b, d] X.env = (false, eval a X.env) :: starEach [b, d] X.env := by rfl) (hpl : (backTo pos (starEach [b, d] X.env)).any (·.1) = false := by rfl) : IV m ExS X tg (.Call (.Name "range" p) [a, b, d] [] pos) (rng3_ fr) := by
  refine ⟨PI.imp' (pi_range3 hg hm ha.pa hs hpl) ?_⟩
  rintro σ H Rr ⟨ow, ρ, env, st, S, ws, st', e, q⟩
  obtain ⟨w, st1, e1, e⟩ := R.bind_ok e
  refine ⟨ow, ρ, env, st, S, _, _, e1, fun v c1 x s wf r => ?_⟩
  split at e
  · split at e <;> cases e
    rename_i h
    unfold rgOk at h
    simp only [decide_eq_true_eq] at h
    cases r with
    | cons r1 r2 =>
      cases r1
      cases r2 with
      | cons r2 r3 =>
        cases r2
        cases r3 with
        | cons r3 r4 =>
          cases r3; cases r4
          refine ⟨_, _, _, _, rfl, RgC.neg h.2.2.1 h.2.2.2.1 h.1 h.2.1, q _ c1 x s wf feeds_rgC ?_⟩
          rw [List.length_map, List.length_range]; exact h.2.2.2.2
  · cases e
end
end Cr
/-! Cr9: comprehensions. -/
namespace Cr
open PySem PySem.Spec PyProof.Rows L2

def wipeE (env : Env) : List Nat → Env
  | [] => env
  | v :: vs => (wipeE env vs).set v none
theorem wipeE_length (env : Env) : ∀ vs : List Nat, (wipeE env vs).length = env.length
  | [] => rfl
  | v :: vs => by unfold wipeE; rw [List.length_set, wipeE_length env vs]
theorem wipe_at {σ : L2.St} {j : Nat} : ∀ {vs : List Nat}, j ∉ vs → (wipe σ vs)[j]? = σ[j]?
  | [], _ => rfl
  | v :: vs, h => by
    rw [List.mem_cons, not_or] at h
    unfold wipe
    rw [List.getElem?_set_ne (Ne.symm h.1), wipe_at h.2]
theorem wipe_in {σ : L2.St} {j : Nat} : ∀ {vs : List Nat}, j ∈ vs → j < σ.length → (wipe σ vs)[j]? = some none
  | [], h, _ => by cases h
  | v :: vs, h, hl => by
    unfold wipe
    by_cases e : j = v
    · subst e
      exact List.getElem?_set_self (by rw [wipe_length]; exact hl)
    · rw [List.getElem?_set_ne (Ne.symm e)]
      rcases List.mem_cons.mp h with h | h
      · exact absurd h e
      · exact wipe_in h hl
theorem wipeE_at {σ : Env} {j : Nat} : ∀ {vs : List Nat}, j ∉ vs → (wipeE σ vs)[j]? = σ[j]?
  | [], _ => rfl
  | v :: vs, h => by
    rw [List.mem_cons, not_or] at h
    unfold wipeE
    rw [List.getElem?_set_ne (Ne.symm h.1), wipeE_at h.2]
theorem wipeE_some {σ : Env} {i : Nat} {x : O} : ∀ {vs : List Nat}, (wipeE σ vs)[i]? = some (some x) → σ[i]? = some (some x) ∧ i ∉ vs
  | [], h => ⟨h, by simp⟩
  | v :: vs, h => by
    unfold wipeE at h
    by_cases e : v = i
    · subst e
      by_cases hl : v < (wipeE σ vs).length
      · rw [List.getElem?_set_self hl] at h; cases h
      · rw [List.getElem?_eq_none (by rw [List.length_set]; omega)] at h; cases h
    · rw [List.getElem?_set_ne e] at h
      obtain ⟨h1, h2⟩ := wipeE_some h
      exact ⟨h1, by rw [List.mem_cons, not_or]; exact ⟨fun q => e q.symm, h2⟩⟩
theorem EnvR.wipe {K : PySem.W.Frag} {c : Cf} {env : Env} {σ : L2.St} (E : EnvR K c env σ) (vs : List Nat) : EnvR K c (wipeE env vs) (wipe σ vs) := by
  refine ⟨by rw [wipeE_length, wipe_length]; exact E.len, fun i o h => ?_⟩
  obtain ⟨h1, h2⟩ := wipeE_some h
  obtain ⟨v, h3, h4⟩ := E.at_ i o h1
  exact ⟨v, by rw [wipe_at h2]; exact h3, h4⟩
theorem wipe_same {σ σ' : L2.St} {js vs : List Nat} (h : Same_ js (wipe σ vs) σ') (hj : ∀ j ∈ js, j ∈ vs) : wipe σ' vs = wipe σ vs := by
  have hl : σ'.length = σ.length := by rw [h.1, wipe_length]
  refine List.ext_getElem? fun j => ?_
  by_cases e : j ∈ vs
  · by_cases q : j < σ.length
    · rw [wipe_in e q, wipe_in e (by rw [hl]; exact q)]
    · rw [List.getElem?_eq_none (by rw [wipe_length]; omega), List.getElem?_eq_none (by rw [wipe_length]; omega)]
  · rw [wipe_at e, h.2 j fun z => e (hj j z)]

def compL (vs : List Nat) (b : Bf) (ft : Tf) (fe : Ef) (env : Env) : List W → Store → R (List W)
  | [], st => .ok [] st
  | w :: ws, st => match b w (wipeE env vs) with
    | none => .no
    | some env1 => (ft env1 st).bind fun k st1 => if k = true then (fe env1 st1).bind fun y st2 => (compL vs b ft fe env ws st2).bind fun ys st3 => .ok (y :: ys) st3 else compL vs b ft fe env ws st1
def comp_ (fi : If) (vs : List Nat) (b : Bf) (ft : Tf) (fe : Ef) : Nf := fun env st => (fi env st).bind fun ws st1 => (compL vs b ft fe env ws st1).bind fun ys st2 => .ok (.ol ys) st2
def yes_ : Tf := fun _ st => .ok true st
structure TsV (m : Bool) (X : Cx) (ifs : List Expr) (f : Tf) : Prop where
  pts : PTs X ifs (tTf X.K m f)
theorem PTs.imp' {X : Cx} {e : List Expr} {t t' : TT} (h : PTs X e t) (i : ∀ σ H Q, t' σ H Q → t σ H Q) : PTs X e t' := ⟨fun pins s σ H Q I q => h.run pins s σ H Q I (i σ H Q q)⟩
theorem ts_nil {X : Cx} {m : Bool} : TsV m X [] yes_ := by
  refine ⟨PTs.imp' pts_nil ?_⟩
  rintro σ H Q ⟨ow, ρ, env, st, S, b, st', e, q⟩
  cases e
  exact q ⟨ow, H, ρ⟩ (Ext.refl ..) S.s S.wf
theorem ts_one {X : Cx} {m : Bool} {c : Expr} {f : Tf} (h : TV m X c f) : TsV m X [c] f := ⟨pts_one h.pt⟩
theorem EV.gen {m : Bool} {X : Cx} {e : Expr} {f : Ef} (h : EV m X e f) : EV false X e f := by
  cases m with
  | false => exact h
  | true =>
    refine ⟨h.pe.imp ?_⟩
    rintro σ H Q ⟨ow, ρ, env, st, S, w, st', e, q⟩
    exact ⟨ow, ρ, env, st, S, w, st', e, fun v c' x s wf r => q v c' x.gen s wf r⟩

section
variable {K : PySem.W.Frag} {m : Bool}
theorem Ext.wr {c1 c : Cf} {st st' : Store} {D : Addr} {o : HO} (x : Ext m c1 c st st') (hD : c1.H D = none) (wf : Wf c1) : Ext m c1 (c.wr D o) st st' := by
  have ne : ∀ a u, c1.H a = some u → a ≠ D := fun a u e => ne_of_none e hD
  refine ⟨fun a u h e => ?_, fun a p h hp => ?_, x.loc, fun hm => ?_⟩
  · obtain ⟨p, q⟩ := x.frz a u h e
    exact ⟨p, by show upd _ _ _ _ = _; rw [upd_ne (ne a u e)]; exact q⟩
  · obtain ⟨u, e⟩ := wf a p h
    obtain ⟨q, r⟩ := x.own a p h hp
    exact ⟨q, by show upd _ _ _ _ = _; rw [upd_ne (ne a u e)]; exact r⟩
  · obtain ⟨e, h⟩ := x.still hm
    refine ⟨e, fun a u q => ?_⟩
    obtain ⟨p, r⟩ := h a u q
    exact ⟨p, by show upd _ _ _ _ = _; rw [upd_ne (ne a u q)]; exact r⟩
theorem Ext.new {c : Cf} {st : Store} {D : Addr} {q : Place} {o : HO} (wf : Wf c) (hD : c.H D = none) : Ext m c (c.new D q o) st st :=
  ⟨Cf.new_frz wf hD, fun a p h _ => Cf.new_own wf hD h, fun _ _ h => h, fun _ => ⟨rfl, fun a u e => by
    have ne : a ≠ D := ne_of_none e hD
    exact ⟨by show updW _ _ _ _ = _; rw [updW_ne ne], by show upd _ _ _ _ = _; rw [upd_ne ne]; exact e⟩⟩⟩
theorem StR.wrOut {c : Cf} {st : Store} {D : Addr} {o : HO} (s : StR K c st) (h : c.ow D = some .out) : StR K (c.wr D o) st :=
  s.keep (Cf.wr_frz h) rfl (fun _ _ h1 => Cf.wr_own h h1 (fun z => by cases z)) (fun _ _ _ h1 => Cf.wr_own h h1 (fun z => by cases z))
/-- without D -/
def Cf.cut (c : Cf) (D : Addr) : Cf := ⟨updW c.ow D none, fun a => if a = D then none else c.H a, c.ρ⟩
theorem Cf.cut_H {c : Cf} {D a : Addr} (h : a ≠ D) : (c.cut D).H a = c.H a := by show (if a = D then none else c.H a) = _; rw [if_neg h]
theorem Cf.cut_ow {c : Cf} {D a : Addr} (h : a ≠ D) : (c.cut D).ow a = c.ow a := updW_ne h
theorem Cf.cut_fz {c : Cf} {D : Addr} {p : Place} (h : c.ow D = some p) : (c.cut D).fz = c.fz := by
  funext a
  by_cases e : a = D
  · subst e
    rw [Cf.fz_of (c := c.cut a) updW_same]
    show (if a = a then none else c.H a) = _
    rw [if_pos rfl]
    unfold Cf.fz
    rw [h]
  · unfold Cf.fz
    rw [Cf.cut_ow e, Cf.cut_H e]
theorem Cf.cut_upd {c : Cf} {D : Addr} {o : HO} (h : c.H D = some o) : upd (c.cut D).H D o = c.H := by
  funext a
  by_cases e : a = D
  · subst e; rw [upd_same, h]
  · rw [upd_ne e, Cf.cut_H e]

theorem comp_imp {fi : If} {vs js : List Nat} {b : Bf} {ft : Tf} {fe : Ef} (hj : ∀ j ∈ js, j ∈ vs) : ∀ σ H Q, tNf K m (comp_ fi vs b ft fe) σ H Q →
    tLc (tIf K m ExE fi) (tGf K js b) (tTf K m ft) (tEf K m fe) vs σ H Q := by
  rintro σ H Q ⟨ow, ρ, env, st, S, o, st', e, q⟩
  obtain ⟨ws, st1, e1, e⟩ := R.bind_ok e
  obtain ⟨ys, st2, e2, e⟩ := R.bind_ok e
  cases e
  refine ⟨ow, ρ, env, st, S, ws, st1, e1, fun J c1 x1 s1 w1 fd hz D hD => ?_⟩
  have E1 := x1.envR S.e
  refine ⟨fun i n H => n = ws.length - i ∧ i ≤ ws.length ∧ ∃ (c : Cf) (sti : Store) (acc : List V) (dn rest : List W), c.H = H ∧ Ext m c1 c st1 sti ∧ c.ow D = some .out ∧ c.H D = some (.lst acc) ∧ RepLC K c dn acc ∧ dn.length ≤ i ∧ StR K c sti ∧ Wf c ∧
    compL vs b ft fe env (ws.drop i) sti = .ok rest st' ∧ ys = dn ++ rest, ⟨ws.length, by simp, Nat.zero_le _, c1.new D .out (.lst []), st1, [], [], ys, rfl, Ext.new w1 hD, updW_same, upd_same, .nil, Nat.le_refl _, Cf.new_st w1 hD s1, Cf.new_wf w1 hD, by rw [List.drop_zero]; exact e2, rfl⟩, ?_⟩
  rintro i n H ⟨rfl, hi, c, sti, acc, dn, rest, rfl, x2, hoD, hHD, rl, hdn, s2, w2, run, hys⟩
  obtain ⟨f1, f2⟩ := fd c ⟨st1, sti, x2.gen⟩ w2
  by_cases hlt : i < ws.length
  · have hget : ws[i]? = some ws[i] := List.getElem?_eq_getElem hlt
    obtain ⟨go, yl⟩ := f1 i _ hget
    refine .inr ⟨go, fun H' => ∃ m', m' < ws.length - i ∧ (m' = ws.length - (i + 1) ∧ i + 1 ≤ ws.length ∧ ∃ (c : Cf) (sti : Store) (acc : List V) (dn rest : List W), c.H = H' ∧ Ext m c1 c st1 sti ∧ c.ow D = some .out ∧ c.H D = some (.lst acc) ∧ RepLC K c dn acc ∧ dn.length ≤ i + 1 ∧ StR K c sti ∧ Wf c ∧
      compL vs b ft fe env (ws.drop (i + 1)) sti = .ok rest st' ∧ ys = dn ++ rest), fun H' h => h, fun x H' hy => ?_⟩
    obtain ⟨c2, rfl, al, rx⟩ := yl x H' hy
    rw [List.drop_eq_getElem_cons hlt] at run
    unfold compL at run
    split at run
    · cases run
    rename_i env1 hb
    obtain ⟨k, st3, e3, run⟩ := R.bind_ok run
    have x12 : Ext m c1 c2 st1 sti := x2.trans (al.ext sti).any
    have keepD : ∀ {c' : Cf} {u : Store}, Ext m c2 c' sti u → c'.ow D = some .out ∧ c'.H D = some (.lst acc) := fun {c' u} y => by
      obtain ⟨p, r⟩ := (al.ext sti).own D .out hoD rfl
      obtain ⟨p', r'⟩ := y.own D .out p rfl
      exact ⟨p', (r'.trans r).trans hHD⟩
    refine ⟨c2.ow, c2.ρ, wipeE env vs, ws[i], (x12.envR E1).wipe vs, rx, env1, hb, fun σ' same E' => ⟨wipe_same same hj, ?_⟩⟩
    refine ⟨c2.ow, c2.ρ, env1, sti, ⟨E', al.str _ s2, al.wf⟩, k, st3, e3, fun c3 x3 s3 w3 => ?_⟩
    have rl3 : RepLC K c3 dn acc := x3.repL ((al.ext sti).repL rl)
    cases k with
    | false =>
      rw [if_neg Bool.false_ne_true] at run
      refine iteF ?_
      obtain ⟨p, r⟩ := keepD x3
      exact ⟨_, by omega, rfl, hlt, c3, st3, acc, dn, rest, rfl, x12.trans x3, p, r, rl3, by omega, s3, w3, run, hys⟩
    | true =>
      rw [if_pos rfl] at run
      refine iteT ?_
      obtain ⟨y, st4, e4, run⟩ := R.bind_ok run
      obtain ⟨yr, st5, e5, run⟩ := R.bind_ok run
      cases run
      refine ⟨c3.ow, c3.ρ, env1, st3, ⟨x3.envR E', s3, w3⟩, y, st4, e4, fun vy c4 x4 s4 w4 r4 => ?_⟩
      obtain ⟨p, r⟩ := keepD (x3.trans x4)
      have hlen : acc.length = dn.length := rl.length.symm
      refine ⟨acc, r, by rw [lim_eq]; show acc.length < 16777216; have : ws.length ≤ 16777216 := hz; omega, _, (by omega : ws.length - (i + 1) < ws.length - i), rfl, hlt, c4.wr D (.lst (acc ++ [vy])), st4, acc ++ [vy], dn ++ [y], yr, rfl, ((x12.trans x3).trans x4).wr hD w1, p, upd_same, ?_, by rw [List.length_append, List.length_singleton]; omega, s4.wrOut p, Cf.wr_wf w4, e5, by rw [hys, List.append_assoc]; rfl⟩
      have fz : ∀ a o, c4.fz a = some o → (c4.wr D (.lst (acc ++ [vy]))).fz a = some o := fz_le (Cf.wr_frz p)
      exact RepL.append (RepL.mono fz (fun _ _ h => h) (x4.repL rl3)) (.cons (r4.mono fz fun _ _ h => h) .nil)
  · have hie : i = ws.length := by omega
    subst hie
    refine .inl ⟨f2 _ (Nat.le_refl _), ?_⟩
    rw [List.drop_length] at run
    cases run
    rw [List.append_nil] at hys
    subst hys
    have fin := q acc (c.cut D) D ?_ ?_ ?_ ?_ ?_ ?_
    · rw [Cf.cut_upd hHD] at fin; exact fin
    · have ne1 : ∀ a u, c1.H a = some u → a ≠ D := fun a u e => ne_of_none e hD
      have y : Ext m c1 (c.cut D) st1 st' := by
        refine ⟨fun a u h e => ?_, fun a p h hp => ?_, x2.loc, fun hm => ?_⟩
        · obtain ⟨p, r⟩ := x2.frz a u h e
          exact ⟨by rw [Cf.cut_ow (ne1 a u e)]; exact p, by rw [Cf.cut_H (ne1 a u e)]; exact r⟩
        · obtain ⟨u, e⟩ := w1 a p h
          obtain ⟨r, t⟩ := x2.own a p h hp
          exact ⟨by rw [Cf.cut_ow (ne1 a u e)]; exact r, by rw [Cf.cut_H (ne1 a u e)]; exact t⟩
        · obtain ⟨e, h⟩ := x2.still hm
          refine ⟨e, fun a u z => ?_⟩
          obtain ⟨p, r⟩ := h a u z
          exact ⟨by rw [Cf.cut_ow (ne1 a u z)]; exact p, by rw [Cf.cut_H (ne1 a u z)]; exact r⟩
      exact x1.trans y
    · have hne : ∀ a p, c.ow a = some p → p ≠ .out → a ≠ D := fun a p h hp z => by rw [z, hoD] at h; cases h; exact hp rfl
      refine s2.keep (fun a u h e => ?_) rfl (fun a n h => ?_) fun a n f h => ?_
      · have ne : a ≠ D := fun z => by rw [z, hoD] at h; cases h
        exact ⟨by rw [Cf.cut_ow ne]; exact h, by rw [Cf.cut_H ne]; exact e⟩
      · have ne := hne a _ h (fun z => by cases z)
        exact ⟨by rw [Cf.cut_ow ne]; exact h, Cf.cut_H ne⟩
      · have ne := hne a _ h (fun z => by cases z)
        exact ⟨by rw [Cf.cut_ow ne]; exact h, Cf.cut_H ne⟩
    · intro a p h
      have ne : a ≠ D := fun z => by
        have h : updW c.ow D none a = some p := h
        rw [z, updW_same] at h; cases h
      rw [Cf.cut_ow ne] at h
      obtain ⟨u, hu⟩ := w2 a p h
      exact ⟨u, by rw [Cf.cut_H ne]; exact hu⟩
    · show (if D = D then none else c.H D) = none
      rw [if_pos rfl]
    · show RepL K (c.cut D).fz c.ρ _ _
      rw [Cf.cut_fz hoD]
      exact rl
    · exact Nat.le_trans hdn hz
end
section
variable {X : Cx} {m : Bool} {elt tg iter : Expr} {ifs : List Expr} {scope : Scope} {own : List (Str × Nat)} {pos : Pos} {fi : If} {js : List Nat} {b : Bf} {ft : Tf} {fe : Ef}
theorem IV.e (h : IV m ExS X tg iter fi) : IV m ExE X tg iter fi := by
  refine ⟨PI.imp' h.pi ?_⟩
  rintro σ H Rr ⟨ow, ρ, env, st, S, ws, st', e, q⟩
  exact ⟨ow, ρ, env, st, S, ws, st', e, fun J c' x s wf fd z => q J c' x s wf fd.e z⟩
theorem n_comp (hc : X.calm = true) (hN : X.N.Nodup) (hi : IV m ExE X tg iter fi) (ok : BlkOk X.N X.env.scope scope own)
    (hg : ∀ (s : Shared) (H : Hp) (C : Addr) (cl : List (Str × Addr)) (fp : List Addr), GV (X.blk s H scope (compEnvC scope cl C X.env) fp) tg js b) (ht : ∀ (s : Shared) (H : Hp) (C : Addr) (cl : List (Str × Addr)) (fp : List Addr), TsV m (X.blk s H scope (compEnvC scope cl C X.env) fp) ifs ft)
    (he : ∀ (s : Shared) (H : Hp) (C : Addr) (cl : List (Str × Addr)) (fp : List Addr), EV m (X.blk s H scope (compEnvC scope cl C X.env) fp) elt fe) (hs : ∀ x, foldedSetIterable iter X.env x = pure x := by intro _; rfl) (hj : ∀ j ∈ js, j ∈ own.map (·.2) := by decide) :
    NV m X (.ListComp elt [⟨tg, iter, ifs, 0⟩] scope pos) (comp_ fi (own.map (·.2)) b ft fe) :=
  ⟨(pe_lc hc hN hi.pi ok (fun s H C cl fp => (hg s H C cl fp).pg) (fun s H C cl fp => (ht s H C cl fp).pts) (fun s H C cl fp => (he s H C cl fp).pe) hs).imp (comp_imp hj)⟩
end
end Cr
/-! Cr10: statements. -/
namespace Cr
open PySem PySem.Spec PyProof.Rows L2

def skip_ : Sf := fun env st => .ok (.nx env) st
def seq_ (f g : Sf) : Sf := fun env st => (f env st).bind fun fl st1 => match fl with
  | .nx env1 => g env1 st1
  | .rt w => .ok (.rt w) st1
def asg_ (i : Nat) (f : Ef) : Sf := fun env st => (f env st).bind fun w st1 => .ok (.nx (env.set i (some (.w w)))) st1
/-- the slot's own -/
def O.isNew : O → Bool
  | .ol _ => true
  | .od _ => true
  | .ot _ => true
  | _ => false
def own_ (i : Nat) (f : Nf) : Sf := fun env st => (f env st).bind fun o st1 => if o.isNew then .ok (.nx (env.set i (some o))) st1 else .no
def asgG_ (b : Bf) (f : Ef) : Sf := fun env st => (f env st).bind fun w st1 => match b w env with
  | some env1 => .ok (.nx env1) st1
  | none => .no
def par_ (is : List Nat) (f : Af) : Sf := fun env st => (f env st).bind fun ws st1 => match is, ws with
  | [i, j], [u, v] => .ok (.nx ((env.set i (some (.w u))).set j (some (.w v)))) st1
  | [i, j, k], [u, v, w] => .ok (.nx (((env.set i (some (.w u))).set j (some (.w v))).set k (some (.w w)))) st1
  | _, _ => .no
def drop_ (f : Ef) : Sf := fun env st => (f env st).bind fun _ st1 => .ok (.nx env) st1
def ret_ (f : Ef) : Sf := fun env st => (f env st).bind fun w st1 => .ok (.rt w) st1
def retN_ : Sf := fun _ st => .ok (.rt .non) st
def if_ (t : Tf) (f g : Sf) : Sf := fun env st => (t env st).bind fun b st1 => if b = true then f env st1 else g env st1
def never_ : Sf := fun _ _ => .no
def forL (b : Bf) (f : Sf) : List W → Sf
  | [], env, st => .ok (.nx env) st
  | w :: ws, env, st => match b w env with
    | none => .no
    | some env1 => (f env1 st).bind fun fl st1 => match fl with
      | .nx env2 => forL b f ws env2 st1
      | .rt v => .ok (.rt v) st1
def for_ (fi : If) (b : Bf) (f : Sf) : Sf := fun env st => (fi env st).bind fun ws st1 => forL b f ws env st1
inductive WhileR (t : Tf) (f : Sf) : Nat → Env → Store → Fl → Store → Prop
  | stop {env : Env} {st st1 : Store} : t env st = .ok false st1 → WhileR t f 0 env st (.nx env) st1
  | ret {env : Env} {st st1 st2 : Store} {w : W} : t env st = .ok true st1 → f env st1 = .ok (.rt w) st2 → WhileR t f 0 env st (.rt w) st2
  | go {n : Nat} {env env1 : Env} {st st1 st2 st' : Store} {fl : Fl} : t env st = .ok true st1 → f env st1 = .ok (.nx env1) st2 → WhileR t f n env1 st2 fl st' → WhileR t f (n + 1) env st fl st'
open Classical in
noncomputable def whl_ (t : Tf) (f : Sf) : Sf := fun env st => if h : ∃ p : Nat × Fl × Store, WhileR t f p.1 env st p.2.1 p.2.2 then .ok h.choose.2.1 h.choose.2.2 else .no
theorem WhileR.det {t : Tf} {f : Sf} : ∀ {n m : Nat} {env : Env} {st st' st'' : Store} {fl fl' : Fl}, WhileR t f n env st fl st' → WhileR t f m env st fl' st'' → fl = fl' ∧ st' = st''
  | _, _, _, _, _, _, _, _, .stop a, .stop b => by rw [a] at b; cases b; exact ⟨rfl, rfl⟩
  | _, _, _, _, _, _, _, _, .stop a, .ret b _ => by rw [a] at b; cases b
  | _, _, _, _, _, _, _, _, .stop a, .go b _ _ => by rw [a] at b; cases b
  | _, _, _, _, _, _, _, _, .ret a _, .stop b => by rw [a] at b; cases b
  | _, _, _, _, _, _, _, _, .ret a a', .ret b b' => by rw [a] at b; cases b; rw [a'] at b'; cases b'; exact ⟨rfl, rfl⟩
  | _, _, _, _, _, _, _, _, .ret a a', .go b b' _ => by rw [a] at b; cases b; rw [a'] at b'; cases b'
  | _, _, _, _, _, _, _, _, .go a _ _, .stop b => by rw [a] at b; cases b
  | _, _, _, _, _, _, _, _, .go a a' _, .ret b b' => by rw [a] at b; cases b; rw [a'] at b'; cases b'
  | _, _, _, _, _, _, _, _, .go a a' r, .go b b' r' => by rw [a] at b; cases b; rw [a'] at b'; cases b'; exact WhileR.det r r'
theorem whl_of {t : Tf} {f : Sf} {n : Nat} {env : Env} {st st' : Store} {fl : Fl} (h : WhileR t f n env st fl st') : whl_ t f env st = .ok fl st' := by
  have hx : ∃ p : Nat × Fl × Store, WhileR t f p.1 env st p.2.1 p.2.2 := ⟨(n, fl, st'), h⟩
  unfold whl_
  rw [dif_pos hx]
  obtain ⟨e1, e2⟩ := hx.choose_spec.det h
  rw [e1, e2]
theorem of_whl {t : Tf} {f : Sf} {env : Env} {st st' : Store} {fl : Fl} (h : whl_ t f env st = .ok fl st') : ∃ n, WhileR t f n env st fl st' := by
  unfold whl_ at h
  split at h
  · rename_i hx
    cases h
    exact ⟨_, hx.choose_spec⟩
  · cases h
theorem whl_stop {t : Tf} {f : Sf} {env : Env} {st st1 : Store} (h : t env st = .ok false st1) : whl_ t f env st = .ok (.nx env) st1 := whl_of (.stop h)
theorem whl_ret {t : Tf} {f : Sf} {env : Env} {st st1 st2 : Store} {w : W} (h : t env st = .ok true st1) (h' : f env st1 = .ok (.rt w) st2) : whl_ t f env st = .ok (.rt w) st2 := whl_of (.ret h h')
theorem whl_go {t : Tf} {f : Sf} {env env1 : Env} {st st1 st2 st' : Store} {fl : Fl} (h : t env st = .ok true st1) (h' : f env st1 = .ok (.nx env1) st2) (r : whl_ t f env1 st2 = .ok fl st') : whl_ t f env st = .ok fl st' := by
  obtain ⟨n, r⟩ := of_whl r
  exact whl_of (.go h h' r)

section
variable {K : PySem.W.Frag} {m : Bool}
theorem Sm.exs {c c1 : Cf} {env : Env} {st st1 : Store} {σ : L2.St} (S : Sm K c env st σ) (x : Ext m c c1 st st1) (s : StR K c1 st1) (wf : Wf c1) : Sm K c1 env st1 σ := ⟨x.envR S.e, s, wf⟩
theorem Sm.put {c : Cf} {env : Env} {st : Store} {σ : L2.St} {i : Nat} {w : W} {v : V} (S : Sm K c env st σ) (r : RepC K c w v) : Sm K c (env.set i (some (.w w))) st (σ.set i (some v)) :=
  ⟨S.e.put ⟨.w r, trivial⟩ (fun _ _ h h' => ⟨h, h'⟩) (fun _ _ h => h) fun _ _ _ h => ⟨h, rfl⟩, S.s, S.wf⟩
theorem tS_mono {f : Sf} {D : Ends} {ow : Ow} {H : Hp} {ρ : List Addr} {env : Env} {st : Store} {σ : L2.St} (S : Sm K ⟨ow, H, ρ⟩ env st σ) {fl : Fl} {st' : Store} (e : f env st = .ok fl st')
    (hn : ∀ env' σ' c', fl = .nx env' → Sm K c' env' st' σ' → ExS ⟨ow, H, ρ⟩ c' → D.nx σ' c'.H) (hr : ∀ w v c', fl = .rt w → StR K c' st' → Wf c' → RepC K c' w v → ExS ⟨ow, H, ρ⟩ c' → D.rt v c'.H) : tSf K f D σ H := by
  refine ⟨ow, ρ, env, st, S, fl, st', e, ?_⟩
  cases fl with
  | nx env' => exact fun σ' c' => hn env' σ' c' rfl
  | rt w => exact fun v c' => hr w v c' rfl
/-- what a statement's reading gives, taken apart -/
theorem tS_use {f : Sf} {D : Ends} {H : Hp} {σ : L2.St} (h : tSf K f D σ H) : ∃ ow ρ env st fl st', Sm K ⟨ow, H, ρ⟩ env st σ ∧ f env st = .ok fl st' ∧
    (∀ env' σ' c', fl = .nx env' → Sm K c' env' st' σ' → ExS ⟨ow, H, ρ⟩ c' → D.nx σ' c'.H) ∧ (∀ w v c', fl = .rt w → StR K c' st' → Wf c' → RepC K c' w v → ExS ⟨ow, H, ρ⟩ c' → D.rt v c'.H) := by
  obtain ⟨ow, ρ, env, st, S, fl, st', e, q⟩ := h
  refine ⟨ow, ρ, env, st, fl, st', S, e, ?_⟩
  cases fl with
  | nx env' => exact ⟨(fun env'' σ' c' z => by cases z; exact q σ' c'), (fun _ _ _ z => nomatch z)⟩
  | rt w => exact ⟨(fun _ _ _ z => nomatch z), (fun w' v c' z => by cases z; exact q v c')⟩
end

section
variable {X : Cx} {m : Bool} {s : Stmt} {ss : List Stmt} {e a b : Expr} {f g : Sf} {fe : Ef} {pos : Pos}
theorem ss_nil : SSV X [] skip_ := by
  refine ⟨PSs.imp pss_nil ?_⟩
  intro D σ H h
  obtain ⟨ow, ρ, env, st, fl, st', S, e, hn, hr⟩ := tS_use h
  cases e
  exact hn _ σ ⟨ow, H, ρ⟩ rfl S (ExS.refl _)
theorem ss_cons (h : SV X s f) (hr : SSV X ss g) : SSV X (s :: ss) (seq_ f g) := by
  refine ⟨(pss_cons h.ps hr.pss).imp ?_⟩
  intro D σ H h
  obtain ⟨ow, ρ, env, st, fl, st', S, e, hn, hr⟩ := tS_use h
  obtain ⟨fl1, st1, e1, e2⟩ := R.bind_ok e
  refine tS_mono S e1 (fun env' σ' c' z S' x => ?_) fun w v c' z s wf r x => ?_
  · subst z
    exact tS_mono (D := D) S' e2 (fun env2 σ2 c2 z S2 x2 => hn env2 σ2 c2 z S2 (x.trans x2)) fun w v c2 z s wf r x2 => hr w v c2 z s wf r (x.trans x2)
  · subst z
    cases e2
    exact hr w v c' rfl s wf r x
theorem ss_one (h : SV X s f) : SSV X [s] f := ⟨pss_one h.ps⟩
theorem s_never : SV X s never_ := ⟨ps_never.imp fun D σ H h => by
  obtain ⟨_, _, _, _, _, _, _, e, _⟩ := tS_use h
  cases e⟩
theorem ss_never : SSV X ss never_ := ⟨pss_never.imp fun D σ H h => by
  obtain ⟨_, _, _, _, _, _, _, e, _⟩ := tS_use h
  cases e⟩
theorem s_pass : SV X (.Pass pos) skip_ := by
  refine ⟨PS.imp ps_pass ?_⟩
  intro D σ H h
  obtain ⟨ow, ρ, env, st, fl, st', S, e, hn, hr⟩ := tS_use h
  cases e
  exact hn _ σ ⟨ow, H, ρ⟩ rfl S (ExS.refl _)
/-- some slots are forgotten behind a block -/
def endk_ (ks : List Nat) (f : Sf) : Sf := fun env st => (f env st).bind fun fl st1 => match fl with
  | .nx env1 => .ok (.nx (wipeE env1 ks)) st1
  | .rt w => .ok (.rt w) st1
theorem wipe_sub {K : PySem.W.Frag} {c : Cf} {env : Env} {st : Store} {σ : L2.St} (S : Sm K c env st σ) (ks : List Nat) : Sm K c (wipeE env ks) st σ :=
  ⟨S.e.sub (wipeE_length ..) fun _ _ h => (wipeE_some h).1, S.s, S.wf⟩
theorem endk_imp {K : PySem.W.Frag} {ks : List Nat} : ∀ D σ H, tSf K (endk_ ks f) D σ H → tSf K f D σ H := by
  intro D σ H h
  obtain ⟨ow, ρ, env, st, fl, st', S, e, hn, hr⟩ := tS_use h
  obtain ⟨fl1, st1, e1, e2⟩ := R.bind_ok e
  refine tS_mono S e1 (fun env' σ' c' z S' x => ?_) fun w v c' z s wf r x => ?_
  · subst z
    cases e2
    exact hn _ σ' c' rfl (wipe_sub S' ks) x
  · subst z
    cases e2
    exact hr w v c' rfl s wf r x
theorem ss_endk (ks : List Nat) (h : SSV X ss f) : SSV X ss (endk_ ks f) := ⟨h.pss.imp endk_imp⟩
theorem s_endk (ks : List Nat) (h : SV X s f) : SV X s (endk_ ks f) := ⟨h.ps.imp endk_imp⟩

/-! ### assignments -/
theorem asg_imp {K : PySem.W.Frag} {i : Nat} {te : TE} (h : ∀ σ H Q, tEf K m fe σ H Q → te σ H Q) : ∀ D σ H, tSf K (asg_ i fe) D σ H → tAsg te (gName i) D σ H := by
  intro D σ H h'
  obtain ⟨ow, ρ, env, st, fl, st', S, e, hn, hr⟩ := tS_use h'
  obtain ⟨w, st1, e1, e2⟩ := R.bind_ok e
  cases e2
  refine h _ _ _ ⟨ow, ρ, env, st, S, w, _, e1, fun v c' x s wf r => ?_⟩
  exact hn _ _ c' rfl ((S.exs x s wf).put r) x.s
theorem s_asg {i : Nat} {x : Str} {pos' : Pos} (hN : X.N.Nodup) (hi : X.N[i]? = some x) (hx : Loc X.env.scope x) (he : EV m X e fe) (hs : swapsWith e (some (.Name x pos')) pos.line X.env = pure false := by rfl)
    (hf : X.fn x = true ∨ X.env.scope.names.lookup x = some .local := by first | exact .inl rfl | exact .inr rfl | assumption) : SV X (.Assign [.Name x pos'] e pos) (asg_ i fe) :=
  ⟨(ps_set hN hi hx he.pe hs hf).imp (asg_imp (m := m) fun _ _ _ h => h)⟩
theorem own_imp {K : PySem.W.Frag} {i : Nat} {fn : Nf} {te : TE} (h : ∀ σ H Q, tNf K m fn σ H Q → te σ H Q) : ∀ D σ H, tSf K (own_ i fn) D σ H → tAsg te (gName i) D σ H := by
  intro D σ H h'
  obtain ⟨ow, ρ, env, st, fl, st', S, e, hn, hr⟩ := tS_use h'
  obtain ⟨o, st1, e1, e2⟩ := R.bind_ok e
  split at e2 <;> cases e2
  rename_i hnew
  have go : ∀ (c1 : Cf) (p : Addr) (u : HO), Ext m ⟨ow, H, ρ⟩ c1 st st' → StR K c1 st' → Wf c1 → c1.H p = none → (∀ c2, Frz c1 c2 → c2.ρ = c1.ρ → c2.H = upd c1.H p u → c2.ow p = some (.env i) → Pk K c2 o (.ref p)) → (∀ c2, c2.ow p = some (.env i) → Own c2 (.env i) o (.ref p)) → gName i (.ref p) σ (upd c1.H p u) D.nx := by
    intro c1 p u x s wf hp pk ow'
    have E := (S.exs x s wf).e
    refine hn _ _ (c1.new p (.env i) u) rfl ⟨E.put ⟨pk _ (Cf.new_frz wf hp) rfl rfl updW_same, ow' _ updW_same⟩ (Cf.new_frz wf hp) (fun _ _ h => h) (fun j a _ h => Cf.new_own wf hp h), Cf.new_st wf hp s, Cf.new_wf wf hp⟩ (x.s.trans (Cf.new_exs wf hp))
  refine h _ _ _ ⟨ow, ρ, env, st, S, o, _, e1, ?_⟩
  cases o with
  | w v => cases hnew
  | ol ws => exact fun vs c1 p x s wf hp r z => go c1 p _ x s wf hp (fun c2 fz er eH ew => .ol (by rw [eH]; exact upd_same) (r.mono (fz_le fz) fun n a q => by rw [er]; exact q) z) fun c2 ew => ⟨p, rfl, ew⟩
  | od ws => exact fun vs c1 p x s wf hp r z => go c1 p _ x s wf hp (fun c2 fz er eH ew => .od (by rw [eH]; exact upd_same) (r.mono (fz_le fz) fun n a q => by rw [er]; exact q) z) fun c2 ew => ⟨p, rfl, ew⟩
  | ot ws => exact fun vs c1 p x s wf hp r z => go c1 p _ x s wf hp (fun c2 fz er eH ew => .ot (by rw [eH]; exact upd_same) (r.mono (fz_le fz) fun n a q => by rw [er]; exact q) z) fun c2 ew => ⟨p, rfl, ew⟩
  | oll ws => cases hnew
theorem s_own {i : Nat} {x : Str} {pos' : Pos} {fn : Nf} (hN : X.N.Nodup) (hi : X.N[i]? = some x) (hx : Loc X.env.scope x) (he : NV m X e fn) (hs : swapsWith e (some (.Name x pos')) pos.line X.env = pure false := by rfl)
    (hf : X.fn x = true ∨ X.env.scope.names.lookup x = some .local := by first | exact .inl rfl | exact .inr rfl | assumption) : SV X (.Assign [.Name x pos'] e pos) (own_ i fn) :=
  ⟨(ps_set hN hi hx he.pe hs hf).imp (own_imp (m := m) fun _ _ _ h => h)⟩
theorem frzL_imp {K : PySem.W.Frag} {fn : Nf} {te : TE} (h : ∀ σ H Q, tNf K m fn σ H Q → te σ H Q) : ∀ σ H Q, tEf K m (frzL_ fn) σ H Q → te σ H Q := by
  rintro σ H Q ⟨ow, ρ, env, st, S, w, st', e, q⟩
  obtain ⟨o, st1, e1, e⟩ := R.bind_ok e
  refine h _ _ _ ⟨ow, ρ, env, st, S, o, st1, e1, ?_⟩
  split at e <;> cases e
  intro vs c1 p x1 s1 w1 hp r z
  obtain ⟨x4, s4, w4, f4⟩ := alloc K _ (.lst vs) w1 hp
  exact q _ _ (x1.trans x4.any) (s4 s1) w4 (.lst f4 (x4.repL r) z)
section
variable {elt tg iter : Expr} {ifs : List Expr} {scope : Scope} {own : List (Str × Nat)} {fi : If} {js : List Nat} {bb : Bf} {ft : Tf} {fel : Ef} {spos py : Pos} {i : Nat} {y : Str}
/-- name = [..], the name a local, on one line -/
theorem s_ownC (hc : X.calm = true) (hN : X.N.Nodup) (hy : X.N[i]? = some y) (hyl : X.env.scope.names.lookup y = some .local) (hsw : swapsWith (.ListComp elt [⟨tg, iter, ifs, 0⟩] scope pos) (some (.Name y py)) spos.line X.env = pure true) (hi : IV m ExE X tg iter fi) (ok : BlkOk X.N X.env.scope scope own)
    (hg : ∀ (s : Shared) (H : Hp) (C : Addr) (cl : List (Str × Addr)) (fp : List Addr), GV (X.blk s H scope (compEnvC scope cl C X.env) fp) tg js bb) (ht : ∀ (s : Shared) (H : Hp) (C : Addr) (cl : List (Str × Addr)) (fp : List Addr), TsV m (X.blk s H scope (compEnvC scope cl C X.env) fp) ifs ft)
    (he : ∀ (s : Shared) (H : Hp) (C : Addr) (cl : List (Str × Addr)) (fp : List Addr), EV m (X.blk s H scope (compEnvC scope cl C X.env) fp) elt fel) (hs : ∀ x, foldedSetIterable iter X.env x = pure x := by intro _; rfl) (hj : ∀ j ∈ js, j ∈ own.map (·.2) := by decide) :
    SV X (.Assign [.Name y py] (.ListComp elt [⟨tg, iter, ifs, 0⟩] scope pos) spos) (own_ i (comp_ fi (own.map (·.2)) bb ft fel)) :=
  ⟨(ps_setLc hc hN hy hyl hsw hi.pi ok (fun s H C cl fp => (hg s H C cl fp).pg) (fun s H C cl fp => (ht s H C cl fp).pts) (fun s H C cl fp => (he s H C cl fp).pe) hs).imp (own_imp (m := m) (comp_imp hj))⟩
theorem s_asgC (hc : X.calm = true) (hN : X.N.Nodup) (hy : X.N[i]? = some y) (hyl : X.env.scope.names.lookup y = some .local) (hsw : swapsWith (.ListComp elt [⟨tg, iter, ifs, 0⟩] scope pos) (some (.Name y py)) spos.line X.env = pure true) (hi : IV m ExE X tg iter fi) (ok : BlkOk X.N X.env.scope scope own)
    (hg : ∀ (s : Shared) (H : Hp) (C : Addr) (cl : List (Str × Addr)) (fp : List Addr), GV (X.blk s H scope (compEnvC scope cl C X.env) fp) tg js bb) (ht : ∀ (s : Shared) (H : Hp) (C : Addr) (cl : List (Str × Addr)) (fp : List Addr), TsV m (X.blk s H scope (compEnvC scope cl C X.env) fp) ifs ft)
    (he : ∀ (s : Shared) (H : Hp) (C : Addr) (cl : List (Str × Addr)) (fp : List Addr), EV m (X.blk s H scope (compEnvC scope cl C X.env) fp) elt fel) (hs : ∀ x, foldedSetIterable iter X.env x = pure x := by intro _; rfl) (hj : ∀ j ∈ js, j ∈ own.map (·.2) := by decide) :
    SV X (.Assign [.Name y py] (.ListComp elt [⟨tg, iter, ifs, 0⟩] scope pos) spos) (asg_ i (frzL_ (comp_ fi (own.map (·.2)) bb ft fel))) :=
  ⟨(ps_setLc hc hN hy hyl hsw hi.pi ok (fun s H C cl fp => (hg s H C cl fp).pg) (fun s H C cl fp => (ht s H C cl fp).pts) (fun s H C cl fp => (he s H C cl fp).pe) hs).imp (asg_imp (m := m) (frzL_imp (comp_imp hj)))⟩
end
/-- a, b = e -/
theorem s_asgG {tg : Expr} {js : List Nat} {bb : Bf} (he : EV m X e fe) (hg : GV X tg js bb) (hs : swapsWithSole [tg] e pos.line X.env = pure false := by rfl) (hw : swappedStores [tg] e X.env = pure none := by rfl)
    (h1 : (assignEach [tg] X.env).map (·.2) = [assign tg X.env] := by rfl) : SV X (.Assign [tg] e pos) (asgG_ bb fe) := by
  refine ⟨(ps_asg he.pe hg.pg hs hw h1).imp ?_⟩
  intro D σ H h'
  obtain ⟨ow, ρ, env, st, fl, st', S, e, hn, hr⟩ := tS_use h'
  obtain ⟨w, st1, e1, e2⟩ := R.bind_ok e
  refine ⟨ow, ρ, env, st, S, w, _, e1, fun v c' x s wf r => ?_⟩
  split at e2 <;> cases e2
  rename_i env1 hb
  exact ⟨c'.ow, c'.ρ, env, w, (S.exs x s wf).e, r, env1, hb, fun σ' _ E => hn _ _ c' rfl ⟨E, s, wf⟩ x.s⟩
theorem s_par2 {i j : Nat} {x y : Str} {fr : Af} {px py pt : Pos} {kt k2 : Nat} {pt2 : Pos} (hc : X.calm = true) (hN : X.N.Nodup) (hi : X.N[i]? = some x) (hj : X.N[j]? = some y) (hij : i ≠ j)
    (hx : X.env.scope.names.lookup x = some .local) (hy : X.env.scope.names.lookup y = some .local) (ha : AV m X [a, b] fr)
    (hw : swappedStores [.Tuple [.Name x px, .Name y py] kt pt] (.Tuple [a, b] k2 pt2) X.env = pure (some [x, y]))
    (hs : swapsWithSole [.Tuple [.Name x px, .Name y py] kt pt] (.Tuple [a, b] k2 pt2) pos.line X.env = pure false := by rfl) :
    SV X (.Assign [.Tuple [.Name x px, .Name y py] kt pt] (.Tuple [a, b] k2 pt2) pos) (par_ [i, j] fr) := by
  refine ⟨(ps_par hc hN hi hj hij hx hy ha.pa hw hs).imp ?_⟩
  intro D σ H h'
  obtain ⟨ow, ρ, env, st, fl, st', S, e, hn, hr⟩ := tS_use h'
  obtain ⟨ws, st1, e1, e2⟩ := R.bind_ok e
  refine ⟨ow, ρ, env, st, S, ws, _, e1, fun vs c' x s wf r => ?_⟩
  split at e2
  · rename_i h1
    simp only [List.cons.injEq, and_true] at h1
    obtain ⟨rfl, rfl⟩ := h1
    cases e2
    cases r with
    | cons r1 r =>
      cases r with
      | cons r2 r =>
        cases r
        exact ⟨_, _, rfl, hn _ _ c' rfl (((S.exs x s wf).put r1).put r2) x.s⟩
  · rename_i h1
    simp at h1
  · cases e2
theorem s_par3 {i j k : Nat} {x y z : Str} {d : Expr} {fr : Af} {px py pz pt : Pos} {kt k2 : Nat} {pt2 : Pos} (hc : X.calm = true) (hN : X.N.Nodup) (hi : X.N[i]? = some x) (hj : X.N[j]? = some y) (hk : X.N[k]? = some z) (hij : i ≠ j) (hik : i ≠ k) (hjk : j ≠ k)
    (hx : X.env.scope.names.lookup x = some .local) (hy : X.env.scope.names.lookup y = some .local) (hz : X.env.scope.names.lookup z = some .local) (ha : AV m X [a, b, d] fr)
    (hw : swappedStores [.Tuple [.Name x px, .Name y py, .Name z pz] kt pt] (.Tuple [a, b, d] k2 pt2) X.env = pure (some [x, y, z]))
    (hs : swapsWithSole [.Tuple [.Name x px, .Name y py, .Name z pz] kt pt] (.Tuple [a, b, d] k2 pt2) pos.line X.env = pure false := by rfl) :
    SV X (.Assign [.Tuple [.Name x px, .Name y py, .Name z pz] kt pt] (.Tuple [a, b, d] k2 pt2) pos) (par_ [i, j, k] fr) := by
  refine ⟨(ps_par3 hc hN hi hj hk hij hik hjk hx hy hz ha.pa hw hs).imp ?_⟩
  intro D σ H h'
  obtain ⟨ow, ρ, env, st, fl, st', S, e, hn, hr⟩ := tS_use h'
  obtain ⟨ws, st1, e1, e2⟩ := R.bind_ok e
  refine ⟨ow, ρ, env, st, S, ws, _, e1, fun vs c' x s wf r => ?_⟩
  split at e2
  · rename_i h1
    simp at h1
  · rename_i h1
    simp only [List.cons.injEq, and_true] at h1
    obtain ⟨rfl, rfl, rfl⟩ := h1
    cases e2
    cases r with
    | cons r1 r =>
      cases r with
      | cons r2 r =>
        cases r with
        | cons r3 r =>
          cases r
          exact ⟨_, _, _, rfl, hn _ _ c' rfl ((((S.exs x s wf).put r1).put r2).put r3) x.s⟩
  · cases e2
theorem s_drop (he : EV m X e fe) (hs : swapsWith e none pos.line X.env = pure false := by rfl) : SV X (.Expr e pos) (drop_ fe) := by
  refine ⟨(ps_expr he.pe hs).imp ?_⟩
  intro D σ H h'
  obtain ⟨ow, ρ, env, st, fl, st', S, e, hn, hr⟩ := tS_use h'
  obtain ⟨w, st1, e1, e2⟩ := R.bind_ok e
  cases e2
  exact ⟨ow, ρ, env, st, S, w, _, e1, fun v c' x s wf r => hn _ _ c' rfl (S.exs x s wf) x.s⟩
theorem s_ret (he : EV m X e fe) : SV X (.Return (some e) pos) (ret_ fe) := by
  refine ⟨(ps_ret he.pe).imp ?_⟩
  intro D σ H h'
  obtain ⟨ow, ρ, env, st, fl, st', S, e, hn, hr⟩ := tS_use h'
  obtain ⟨w, st1, e1, e2⟩ := R.bind_ok e
  cases e2
  exact ⟨ow, ρ, env, st, S, w, _, e1, fun v c' x s wf r => hr _ _ c' rfl s wf r x.s⟩
theorem s_retN : SV X (.Return none pos) retN_ := by
  refine ⟨PS.imp ps_retN ?_⟩
  intro D σ H h'
  obtain ⟨ow, ρ, env, st, fl, st', S, e, hn, hr⟩ := tS_use h'
  cases e
  exact hr _ _ ⟨ow, H, ρ⟩ rfl S.s S.wf .non (ExS.refl _)
theorem s_if {t : Expr} {b1 b2 : List Stmt} {ft : Tf} (ht : TV m X t ft) (h1 : SSV X b1 f) (h2 : SSV X b2 g) : SV X (.If t b1 b2 pos) (if_ ft f g) := by
  refine ⟨(ps_if ht.pt h1.pss h2.pss).imp ?_⟩
  intro D σ H h'
  obtain ⟨ow, ρ, env, st, fl, st', S, e, hn, hr⟩ := tS_use h'
  obtain ⟨k, st1, e1, e2⟩ := R.bind_ok e
  refine ⟨ow, ρ, env, st, S, k, st1, e1, fun c' x s wf => ?_⟩
  cases k with
  | true =>
    rw [if_pos rfl] at e2
    refine iteT ?_
    exact tS_mono (S.exs x s wf) e2 (fun env' σ' c2 z S' y => hn env' σ' c2 z S' (x.s.trans y)) fun w v c2 z s wf r y => hr w v c2 z s wf r (x.s.trans y)
  | false =>
    rw [if_neg Bool.false_ne_true] at e2
    refine iteF ?_
    exact tS_mono (S.exs x s wf) e2 (fun env' σ' c2 z S' y => hn env' σ' c2 z S' (x.s.trans y)) fun w v c2 z s wf r y => hr w v c2 z s wf r (x.s.trans y)

/-! ### loops -/
theorem s_for {tg iter : Expr} {body : List Stmt} {js : List Nat} {bb : Bf} {fi : If} (hp : PassesOwn (model X.prog X.w) X.A X.env X.xe) (hc : X.calm = true) (hi : IV m ExS X tg iter fi) (hg : GV X tg js bb) (hb : SSV X body f)
    (hs : ∀ x, foldedSetIterable iter X.env x = pure x := by intro _; rfl) : SV X (.For tg iter body [] pos) (for_ fi bb f) := by
  refine ⟨(ps_for hp hc hi.pi hg.pg hb.pss hs).imp ?_⟩
  intro D σ H h'
  obtain ⟨ow, ρ, env, st, fl, st', S, e, hn, hr⟩ := tS_use h'
  obtain ⟨ws, st1, e1, e2⟩ := R.bind_ok e
  refine ⟨ow, ρ, env, st, S, ws, st1, e1, fun J c1 x1 s1 w1 fd hz => ?_⟩
  refine ⟨fun i n σ H => n = ws.length - i ∧ i ≤ ws.length ∧ ∃ (c : Cf) (env : Env) (st : Store), c.H = H ∧ Sm X.K c env st σ ∧ ExS c1 c ∧ forL bb f (ws.drop i) env st = .ok fl st', ⟨ws.length, by simp, Nat.zero_le _, c1, env, st1, rfl, S.exs x1 s1 w1, ExS.refl _, by rw [List.drop_zero]; exact e2⟩, ?_⟩
  rintro i n σ H ⟨rfl, hi, c, env1, sti, rfl, Si, xi, run⟩
  obtain ⟨f1, f2⟩ := fd c xi Si.wf
  by_cases hlt : i < ws.length
  · have hget : ws[i]? = some ws[i] := List.getElem?_eq_getElem hlt
    obtain ⟨go, yl⟩ := f1 i _ hget
    refine .inr ⟨go, fun σ' H' => ∃ m', m' < ws.length - i ∧ (m' = ws.length - (i + 1) ∧ i + 1 ≤ ws.length ∧ ∃ (c : Cf) (env : Env) (st : Store), c.H = H' ∧ Sm X.K c env st σ' ∧ ExS c1 c ∧ forL bb f (ws.drop (i + 1)) env st = .ok fl st'), fun σ' H' h => h, fun x H' hy => ?_⟩
    obtain ⟨c2, rfl, al, rx⟩ := yl x H' hy
    rw [List.drop_eq_getElem_cons hlt] at run
    unfold forL at run
    split at run
    · cases run
    rename_i env2 hbb
    obtain ⟨fl3, st3, e3, run⟩ := R.bind_ok run
    have x2 : ExS c1 c2 := xi.trans (al.ext sti).s
    refine ⟨c2.ow, c2.ρ, env1, ws[i], (al.ext sti).envR Si.e, rx, env2, hbb, fun σ2 _ E2 => ?_⟩
    refine tS_mono (ow := c2.ow) (H := c2.H) (ρ := c2.ρ) ⟨E2, al.str _ Si.s, al.wf⟩ e3 (fun env' σ' c' z S' y => ?_) fun w v c' z s wf r y => ?_
    · subst z
      exact ⟨_, (by omega : ws.length - (i + 1) < ws.length - i), rfl, hlt, c', env', st3, rfl, S', x2.trans y, run⟩
    · subst z
      cases run
      exact hr w v c' rfl s wf r (x1.s.trans (x2.trans y))
  · have hie : i = ws.length := by omega
    subst hie
    refine .inl ⟨f2 _ (Nat.le_refl _), ?_⟩
    rw [List.drop_length] at run
    cases run
    exact hn env1 σ c rfl Si (x1.s.trans xi)
theorem s_while {t : Expr} {body : List Stmt} {ft : Tf} (hp : PassesOwn (model X.prog X.w) X.A X.env X.xe) (ht : TV m X t ft) (hb : SSV X body f) : SV X (.While t body [] pos) (whl_ ft f) := by
  refine ⟨(ps_while hp ht.pt hb.pss).imp ?_⟩
  intro D σ H0 h'
  obtain ⟨ow, ρ, env, st, fl, st', S, e, hn, hr⟩ := tS_use h'
  obtain ⟨n, hw⟩ := of_whl e
  refine ⟨fun n σ H => ∃ (c : Cf) (env : Env) (st : Store), c.H = H ∧ Sm X.K c env st σ ∧ ExS ⟨ow, H0, ρ⟩ c ∧ WhileR ft f n env st fl st', ⟨n, ⟨ow, H0, ρ⟩, env, st, rfl, S, ExS.refl _, hw⟩, ?_⟩
  rintro n σ H ⟨c, env1, sti, rfl, Si, xi, w⟩
  cases w with
  | stop h1 =>
    refine ⟨c.ow, c.ρ, env1, sti, Si, false, _, h1, fun c' x s wf => ?_⟩
    refine iteF ?_
    exact hn _ _ c' rfl (Si.exs x s wf) (xi.trans x.s)
  | ret h1 h2 =>
    refine ⟨c.ow, c.ρ, env1, sti, Si, true, _, h1, fun c' x s wf => ?_⟩
    refine iteT ⟨fun _ _ => False, fun _ _ z => z.elim, ?_⟩
    exact tS_mono (ow := c'.ow) (ρ := c'.ρ) (Si.exs x s wf) h2 (fun env' σ' c2 z => nomatch z) fun w v c2 z s wf r y => by cases z; exact hr _ _ c2 rfl s wf r (xi.trans (x.s.trans y))
  | go h1 h2 h3 =>
    rename_i n env2 st1 st2
    refine ⟨c.ow, c.ρ, env1, sti, Si, true, _, h1, fun c' x s wf => ?_⟩
    refine iteT ⟨fun σ' H' => ∃ (c : Cf) (env : Env) (st : Store), c.H = H' ∧ Sm X.K c env st σ' ∧ ExS ⟨ow, H0, ρ⟩ c ∧ WhileR ft f n env st fl st', fun σ' H' z => ⟨n, Nat.lt_succ_self _, z⟩, ?_⟩
    exact tS_mono (ow := c'.ow) (ρ := c'.ρ) (Si.exs x s wf) h2 (fun env' σ' c2 z S' y => by cases z; exact ⟨c2, _, _, rfl, S', xi.trans (x.s.trans y), h3⟩) fun w v c2 z => nomatch z
end
end Cr
/-! Cr11: a slot's own list or dict is written; freezing; returns. -/
namespace Cr
open PySem PySem.Spec PyProof.Rows L2

section
variable {K : PySem.W.Frag} {m : Bool} {c : Cf} {env : Env} {st : Store} {σ : L2.St} {i : Nat}
/-- the list at a slot -/
theorem Sm.lst {ws : List W} (S : Sm K c env st σ) (h : env[i]? = some (some (.ol ws))) : ∃ a vs, σ[i]? = some (some (.ref a)) ∧ c.ow a = some (.env i) ∧ c.H a = some (.lst vs) ∧ RepLC K c ws vs ∧ ws.length ≤ LIM := by
  obtain ⟨v, h1, h2⟩ := S.e.at_ i _ h
  obtain ⟨pk, ow⟩ := h2
  cases pk with
  | ol e r z =>
    obtain ⟨a, q, w⟩ := ow
    cases q
    exact ⟨_, _, h1, w, e, r, z⟩
theorem Sm.dct {ws : List (Key × W)} (S : Sm K c env st σ) (h : env[i]? = some (some (.od ws))) : ∃ a vs, σ[i]? = some (some (.ref a)) ∧ c.ow a = some (.env i) ∧ c.H a = some (.dK vs) ∧ RepD K c.fz c.ρ ws vs ∧ ws.length ≤ LIM := by
  obtain ⟨v, h1, h2⟩ := S.e.at_ i _ h
  obtain ⟨pk, ow⟩ := h2
  cases pk with
  | od e r z =>
    obtain ⟨a, q, w⟩ := ow
    cases q
    exact ⟨_, _, h1, w, e, r, z⟩
theorem Sm.wr {a : Addr} {u : HO} {o : O} (S : Sm K c env st σ) (hv : σ[i]? = some (some (.ref a))) (ho : c.ow a = some (.env i)) (h : Hd K (c.wr a u) (.env i) o (.ref a)) : Sm K (c.wr a u) (env.set i (some o)) st σ ∧ ExS c (c.wr a u) :=
  ⟨⟨S.e.mut hv h (Cf.wr_frz ho) (fun _ _ h => h) (fun j a' hj h1 => Cf.wr_own ho h1 fun z => by cases z; exact hj rfl), Cf.wr_st ho S.s, Cf.wr_wf S.wf⟩, Cf.wr_exs ho⟩
theorem Sm.wrL {a : Addr} {vs : List V} {ws : List W} (S : Sm K c env st σ) (hv : σ[i]? = some (some (.ref a))) (ho : c.ow a = some (.env i)) (r : RepLC K c ws vs) (z : ws.length ≤ LIM) : Sm K (c.wr a (.lst vs)) (env.set i (some (.ol ws))) st σ ∧ ExS c (c.wr a (.lst vs)) :=
  S.wr hv ho ⟨.ol upd_same (r.mono (fz_le (Cf.wr_frz ho)) fun _ _ h => h) z, a, rfl, ho⟩
theorem Sm.wrD {a : Addr} {vs : List (Key × V)} {ws : List (Key × W)} (S : Sm K c env st σ) (hv : σ[i]? = some (some (.ref a))) (ho : c.ow a = some (.env i)) (r : RepD K c.fz c.ρ ws vs) (z : ws.length ≤ LIM) : Sm K (c.wr a (.dK vs)) (env.set i (some (.od ws))) st σ ∧ ExS c (c.wr a (.dK vs)) :=
  S.wr hv ho ⟨.od upd_same (r.mono (fz_le (Cf.wr_frz ho)) fun _ _ h => h) z, a, rfl, ho⟩
end

/-- x.append(e) -/
def app_ (i : Nat) (f : Ef) : Sf := fun env st => (f env st).bind fun w st1 => match env[i]? with
  | some (some (.ol xs)) => if xs.length < LIM then .ok (.nx (env.set i (some (.ol (xs ++ [w]))))) st1 else .no
  | _ => .no
/-- x.extend(e) -/
def ext_ (i : Nat) (f : Ef) : Sf := fun env st => (f env st).bind fun w st1 => match env[i]?, w with
  | some (some (.ol xs)), .lst ys => if xs.length + ys.length ≤ LIM then .ok (.nx (env.set i (some (.ol (xs ++ ys))))) st1 else .no
  | _, _ => .no
/-- x.pop() as a statement -/
def pop_ (i : Nat) : Sf := fun env st => match env[i]? with
  | some (some (.ol xs)) => if xs.isEmpty then .no else .ok (.nx (env.set i (some (.ol xs.dropLast)))) st
  | _ => .no
/-- x[k] = e -/
def put_ (i : Nat) (fk fe : Ef) : Sf := fun env st => (fe env st).bind fun v st1 => (fk env st1).bind fun k st2 => match env[i]? with
  | some (some (.ol xs)) => match k with
    | .int n => match ixN xs.length n with
      | some j => .ok (.nx (env.set i (some (.ol (xs.set j v))))) st2
      | none => .no
    | _ => .no
  | some (some (.od kvs)) => match k.key with
    | some k => if kvs.length < LIM then .ok (.nx (env.set i (some (.od (putW kvs k v))))) st2 else .no
    | none => .no
  | _ => .no
/-- x[k] op= e -/
def aug_ (g : Int → Int → Int) (i : Nat) (fk fe : Ef) : Sf := fun env st => (fk env st).bind fun k st1 => (fe env st1).bind fun v st2 => match env[i]?, k, v with
  | some (some (.ol xs)), .int n, .int b => match ixN xs.length n with
    | some j => match xs[j]? with
      | some (.int a) => .ok (.nx (env.set i (some (.ol (xs.set j (.int (g a b))))))) st2
      | _ => .no
    | none => .no
  | _, _, _ => .no
/-- x op= e, a name -/
def augN_ (g : Int → Int → Int) (i : Nat) (fe : Ef) : Sf := fun env st => match env[i]? with
  | some (some (.w (.int a))) => (fe env st).bind fun v st1 => match v with
    | .int b => .ok (.nx (env.set i (some (.w (.int (g a b)))))) st1
    | _ => .no
  | _ => .no
/-- a slot's own thing stands from here on -/
def freeze_ (i : Nat) (f : Sf) : Sf := fun env st => match env[i]? with
  | some (some (.ol xs)) => f (env.set i (some (.w (.lst xs)))) st
  | some (some (.od xs)) => f (env.set i (some (.w (.dct xs)))) st
  | _ => f env st
/-- return x, x the slot's own -/
def retO_ (i : Nat) : Sf := fun env st => match env[i]? with
  | some (some (.ol xs)) => .ok (.rt (.lst xs)) st
  | some (some (.od xs)) => .ok (.rt (.dct xs)) st
  | some (some (.w x)) => .ok (.rt x) st
  | _ => .no

def rSetDi : V → V → V → Hp → (Hp → Prop) → Prop := fun o i v H Q => ∃ a H4, o = .ref a ∧ DPut H a i v H4 ∧ Q H4
theorem set_dict {X : Cx} (hu : X.A.units + 1 < cLine) : PSet X rSetDi := by
  intro pins s σ H o i v ov iv u Q I ro ri rv h
  obtain ⟨a, H4, rfl, g, q⟩ := h
  cases ro
  exact d_setItem hu I g ri rv fun s' I' => ⟨H4, I', q⟩
theorem PSet.or {X : Cx} {t t' : TSet} (h : PSet X t) (h' : PSet X t') : PSet X (fun o i v H Q => t o i v H Q ∨ t' o i v H Q) := by
  intro pins s σ H o i v ov iv u Q I ro ri rv q
  rcases q with q | q
  · exact h pins s σ H o i v ov iv u Q I ro ri rv q
  · exact h' pins s σ H o i v ov iv u Q I ro ri rv q
theorem get_list {X : Cx} : PGet X (rIxL X.K) := by
  intro pins s σ H x y v u Q I rx ry h
  obtain ⟨p, xs, i, z, rfl, rfl, hq, he, q⟩ := h
  cases rx
  obtain ⟨t, rfl⟩ := ry
  obtain ⟨its, r, pl, hz⟩ := I.list hq
  obtain ⟨j, h1, h2, h3, h4, h5⟩ := atI_get he
  obtain ⟨w, ew, rw'⟩ := r.get h2
  have hl := r.length
  have hn := line63
  have fin : EP X pins σ Q w s := ⟨z, H, I, rw', q⟩
  by_cases h0 : 0 ≤ i
  · have hj : i.toNat = j := by
      rw [seqIndex_of h0 h5] at h1
      exact Option.some.inj h1
    exact wpAny_getItem_list pl.isList h0 (by omega) (by rw [hj]; simpa using ew) fin
  · have hj : (i + (its.toArray.size : Int)).toNat = j := by
      rw [seqIndex_neg (by omega) h4] at h1
      rw [List.size_toArray, ← hl]
      exact Option.some.inj h1
    exact wpAny_getItem_list_neg pl.isList (by omega) (by rw [List.size_toArray] <;> omega) (by omega) (by rw [hj]; simpa using ew) fin

section
variable {X : Cx} {m : Bool} {e k : Expr} {es : List Expr} {fe fk : Ef} {f : Sf} {ss : List Stmt} {pos apos cpos spos kpos : Pos} {i : Nat} {x : Str}
theorem s_append (hN : X.N[i]? = some x) (hv : Vis X.env.scope x) (he : EV m X e fe)
    (hd : (x == ("__debug__" : Str)) = false := by decide) (hcd : (x == ("__classdict__" : Str)) = false := by decide)
    (hbase : attributeBase (.Name x kpos) "append" X.env (eval (.Name x kpos) X.env) = eval (.Name x kpos) X.env := by rfl)
    (hfew : ((backTo cpos (starEach [e] X.env)).all (fun x => !x.1) && (backToKw cpos (keywordEach [] X.env)).all (fun x => x.1.isSome) && decide ([e].length + ([] : List Keyword).length + (if ([] : List Keyword).isEmpty then 0 else 1) < 30)) = true := by rfl)
    (hline : (apos.endLine == cpos.line) = true := by rfl) (hs : starEach [e] X.env = (false, eval e X.env) :: starEach [] X.env := by rfl) (hsw : swapsWith (.Call (.Attribute (.Name x kpos) "append" apos) [e] [] cpos) none spos.line X.env = pure false := by rfl) :
    SV X (.Expr (.Call (.Attribute (.Name x kpos) "append" apos) [e] [] cpos) spos) (app_ i fe) := by
  refine ⟨(ps_expr (pe_bm PySem.F.plainAttrs_list PySem.F.slot_list_append PySem.F.type_list_append mt_append (pe_var hN hv hd hcd) (pa_cons he.pe pa_nil hs) hbase hfew hline hs) hsw).imp ?_⟩
  intro D σ H h'
  obtain ⟨ow, ρ, env, st, fl, st', S, e, hn, hr⟩ := tS_use h'
  obtain ⟨w, st1, e1, e2⟩ := R.bind_ok e
  split at e2
  · rename_i xs hx
    split at e2 <;> cases e2
    rename_i hl
    obtain ⟨a, vs, h1, h2, h3, h4, h5⟩ := S.lst hx
    refine ⟨_, h1, .inl ⟨rfl, _, SqL.of h3⟩, ow, ρ, env, st, S, w, _, e1, fun v c1 x s wf r => ?_⟩
    obtain ⟨g1, g2⟩ := x.own a _ h2 rfl
    refine ⟨a, vs, v, rfl, rfl, g2.trans h3, by rw [lim_eq, ← h4.length]; exact hl, ?_⟩
    obtain ⟨S2, x2⟩ := (S.exs x s wf).wrL h1 g1 ((x.repL h4).append (.cons r .nil)) (by rw [List.length_append]; exact hl)
    exact hn _ _ _ rfl S2 (x.s.trans x2)
  · cases e2
theorem s_extend (hN : X.N[i]? = some x) (hv : Vis X.env.scope x) (he : EV m X e fe)
    (hd : (x == ("__debug__" : Str)) = false := by decide) (hcd : (x == ("__classdict__" : Str)) = false := by decide)
    (hbase : attributeBase (.Name x kpos) "extend" X.env (eval (.Name x kpos) X.env) = eval (.Name x kpos) X.env := by rfl)
    (hfew : ((backTo cpos (starEach [e] X.env)).all (fun x => !x.1) && (backToKw cpos (keywordEach [] X.env)).all (fun x => x.1.isSome) && decide ([e].length + ([] : List Keyword).length + (if ([] : List Keyword).isEmpty then 0 else 1) < 30)) = true := by rfl)
    (hline : (apos.endLine == cpos.line) = true := by rfl) (hs : starEach [e] X.env = (false, eval e X.env) :: starEach [] X.env := by rfl) (hsw : swapsWith (.Call (.Attribute (.Name x kpos) "extend" apos) [e] [] cpos) none spos.line X.env = pure false := by rfl) :
    SV X (.Expr (.Call (.Attribute (.Name x kpos) "extend" apos) [e] [] cpos) spos) (ext_ i fe) := by
  refine ⟨(ps_expr (pe_bm PySem.F.plainAttrs_list PySem.F.slot_list_extend PySem.F.type_list_extend mt_extend (pe_var hN hv hd hcd) (pa_cons he.pe pa_nil hs) hbase hfew hline hs) hsw).imp ?_⟩
  intro D σ H h'
  obtain ⟨ow, ρ, env, st, fl, st', S, e, hn, hr⟩ := tS_use h'
  obtain ⟨w, st1, e1, e2⟩ := R.bind_ok e
  split at e2
  · rename_i xs ys hx
    split at e2 <;> cases e2
    rename_i hl
    obtain ⟨a, vs, h1, h2, h3, h4, h5⟩ := S.lst hx
    refine ⟨_, h1, .inl ⟨rfl, _, SqL.of h3⟩, ow, ρ, env, st, S, _, _, e1, fun v c1 x s wf r => ?_⟩
    cases r with
    | lst q1 q2 q3 =>
      obtain ⟨g1, g2⟩ := x.own a _ h2 rfl
      refine ⟨a, _, vs, _, rfl, rfl, g2.trans h3, (Cf.of_fz q1).2, by rw [lim_eq, ← h4.length, ← q2.length]; exact hl, ?_⟩
      obtain ⟨S2, x2⟩ := (S.exs x s wf).wrL h1 g1 ((x.repL h4).append q2) (by rw [List.length_append]; exact hl)
      exact hn _ _ _ rfl S2 (x.s.trans x2)
  · cases e2
theorem s_pop (hN : X.N[i]? = some x) (hv : Vis X.env.scope x)
    (hd : (x == ("__debug__" : Str)) = false := by decide) (hcd : (x == ("__classdict__" : Str)) = false := by decide)
    (hbase : attributeBase (.Name x kpos) "pop" X.env (eval (.Name x kpos) X.env) = eval (.Name x kpos) X.env := by rfl)
    (hline : (apos.endLine == cpos.line) = true := by rfl) (hsw : swapsWith (.Call (.Attribute (.Name x kpos) "pop" apos) [] [] cpos) none spos.line X.env = pure false := by rfl) :
    SV X (.Expr (.Call (.Attribute (.Name x kpos) "pop" apos) [] [] cpos) spos) (pop_ i) := by
  refine ⟨(ps_expr (pe_bm0 PySem.F.plainAttrs_list PySem.F.slot_list_pop PySem.F.type_list_pop mt_pop (pe_var hN hv hd hcd) hbase hline) hsw).imp ?_⟩
  intro D σ H h'
  obtain ⟨ow, ρ, env, st, fl, st', S, e, hn, hr⟩ := tS_use h'
  unfold pop_ at e
  split at e
  · rename_i xs hx
    split at e <;> cases e
    rename_i hne
    obtain ⟨a, vs, h1, h2, h3, h4, h5⟩ := S.lst hx
    have hl := h4.length
    have hpos : 0 < xs.length := by
      cases xs with
      | nil => exact absurd rfl hne
      | cons _ _ => simp
    have hlt : vs.length - 1 < vs.length := by omega
    refine ⟨_, h1, .inl ⟨rfl, _, SqL.of h3⟩, a, vs, vs[vs.length - 1], rfl, rfl, h3, List.getElem?_eq_getElem hlt, ?_⟩
    have rd : RepLC X.K ⟨ow, H, ρ⟩ xs.dropLast vs.dropLast := by
      rw [List.dropLast_eq_take, List.dropLast_eq_take, hl]
      exact h4.take _
    obtain ⟨S2, x2⟩ := S.wrL h1 h2 rd (by rw [List.length_dropLast]; omega)
    exact hn _ _ _ rfl S2 x2
  · cases e
theorem RepL.setN {K : PySem.W.Frag} {H : Hp} {ρ : List Addr} {w : W} {v : V} {ws : List W} {vs : List V} (q : Rep K H ρ w v) (j : Nat) (r : RepL K H ρ ws vs) : RepL K H ρ (ws.set j w) (vs.set j v) := RepL.set q j r
theorem s_put {tpos : Pos} (hu : X.A.units + 1 < cLine) (hN : X.N[i]? = some x) (hv : Vis X.env.scope x) (hk : EV m X k fk) (he : EV m X e fe)
    (hd : (x == ("__debug__" : Str)) = false := by decide) (hcd : (x == ("__classdict__" : Str)) = false := by decide)
    (ha : ∀ v, assign (.Subscript (.Name x kpos) k tpos) X.env v = (do
      let ov ← holding [v] (eval (.Name x kpos) X.env)
      let iv ← holding [v, ov] (eval k X.env)
      standAt tpos
      holding [v, ov, iv] (setItem ov iv v)
      release [v, ov, iv] []) := by intro _; rfl)
    (hs : swapsWithSole [.Subscript (.Name x kpos) k tpos] e pos.line X.env = pure false := by rfl) (hw : swappedStores [.Subscript (.Name x kpos) k tpos] e X.env = pure none := by rfl)
    (h1 : (assignEach [.Subscript (.Name x kpos) k tpos] X.env).map (·.2) = [assign (.Subscript (.Name x kpos) k tpos) X.env] := by rfl) : SV X (.Assign [.Subscript (.Name x kpos) k tpos] e pos) (put_ i fk fe) := by
  refine ⟨(ps_asg he.pe (pg_sub (pe_var hN hv hd hcd) hk.pe (PSet.or set_list (set_dict hu)) ha) hs hw h1).imp ?_⟩
  intro D σ H h'
  obtain ⟨ow, ρ, env, st, fl, st', S, e, hn, hr⟩ := tS_use h'
  obtain ⟨w, st1, e1, e2⟩ := R.bind_ok e
  obtain ⟨kw, st2, e3, e4⟩ := R.bind_ok e2
  clear e2
  refine ⟨ow, ρ, env, st, S, w, st1, e1, fun v c1 x1 s1 w1 r1 => ?_⟩
  have S1 := S.exs x1 s1 w1
  split at e4
  · rename_i xs hx
    split at e4
    · split at e4 <;> cases e4
      rename_i n j hj
      obtain ⟨a, vs, h1, h2, h3, h4, h5⟩ := S1.lst hx
      refine ⟨_, h1, c1.ow, c1.ρ, env, st1, S1, _, _, e3, fun kv c2 x2 s2 w2 r2 => ?_⟩
      cases r2
      obtain ⟨g1, g2⟩ := x2.own a _ h2 rfl
      refine .inl ⟨a, vs, _, j, rfl, rfl, g2.trans h3, by rw [← h4.length]; exact hj, ?_⟩
      obtain ⟨S2, x3⟩ := (S1.exs x2 s2 w2).wrL h1 g1 ((x2.repL h4).setN (x2.rep r1) j) (by rw [List.length_set]; exact h5)
      exact hn _ _ _ rfl S2 (x1.s.trans (x2.s.trans x3))
    · cases e4
  · rename_i kvs hx
    split at e4
    · split at e4 <;> cases e4
      rename_i key hkey hl
      obtain ⟨a, vs, h1, h2, h3, h4, h5⟩ := S1.dct hx
      refine ⟨_, h1, c1.ow, c1.ρ, env, st1, S1, _, _, e3, fun kv c2 x2 s2 w2 r2 => ?_⟩
      have ek : kv = kV key := View.key (.of r2) hkey
      subst ek
      obtain ⟨g1, g2⟩ := x2.own a _ h2 rfl
      refine .inr ⟨a, _, rfl, DPut.k (g2.trans h3) (by rw [lim_eq, ← h4.length]; exact hl), ?_⟩
      obtain ⟨S2, x3⟩ := (S1.exs x2 s2 w2).wrD h1 g1 (RepD.put key (x2.rep r1) (h4.mono (fz_le x2.frz) x2.loc)) (Nat.le_trans (putW_length ..) hl)
      exact hn _ _ _ rfl S2 (x1.s.trans (x2.s.trans x3))
    · cases e4
  · cases e4
theorem s_aug {tpos : Pos} {op : Operator} {g : Int → Int → Int} (ho : PIp X op (ipI g)) (hN : X.N[i]? = some x) (hv : Vis X.env.scope x) (hk : EV m X k fk) (he : EV m X e fe)
    (hd : (x == ("__debug__" : Str)) = false := by decide) (hcd : (x == ("__classdict__" : Str)) = false := by decide)
    (ha : ∀ ov iv new, augStore k ov iv new = (do holding [new, ov, iv] (setItem ov iv new); release [new, ov, iv] []; pure .next) := by intros; rfl) : SV X (.AugAssign (.Subscript (.Name x kpos) k tpos) op e pos) (aug_ g i fk fe) := by
  refine ⟨(ps_augS (pe_var hN hv hd hcd) hk.pe get_list he.pe ho set_list ha).imp ?_⟩
  intro D σ H h'
  obtain ⟨ow, ρ, env, st, fl, st', S, e, hn, hr⟩ := tS_use h'
  obtain ⟨kw, st1, e1, e2⟩ := R.bind_ok e
  obtain ⟨w, st2, e3, e4⟩ := R.bind_ok e2
  clear e2
  split at e4
  · rename_i xs n b hx
    split at e4
    · split at e4 <;> cases e4
      rename_i j hj _ y hy
      obtain ⟨a, vs, h1, h2, h3, h4, h5⟩ := S.lst hx
      refine ⟨_, h1, ow, ρ, env, st, S, _, _, e1, fun kv c1 x1 s1 w1 r1 => ?_⟩
      cases r1
      obtain ⟨g1, g2⟩ := x1.own a _ h2 rfl
      obtain ⟨v0, q1, q2⟩ := h4.get hy
      cases q2
      have hat : atI vs n = some (.int y) := by
        unfold atI
        rw [← h4.length, hj]
        exact q1
      refine ⟨a, vs, n, _, rfl, rfl, SqL.of (g2.trans h3), hat, ?_⟩
      have S1 := S.exs x1 s1 w1
      refine ⟨c1.ow, c1.ρ, env, st1, S1, _, _, e3, fun v c2 x2 s2 w2 r2 => ?_⟩
      cases r2
      obtain ⟨g3, g4⟩ := x2.own a _ g1 rfl
      refine ⟨_, _, rfl, rfl, a, vs, n, j, rfl, rfl, (g4.trans g2).trans h3, by rw [← h4.length]; exact hj, ?_⟩
      obtain ⟨S2, x3⟩ := (S1.exs x2 s2 w2).wrL h1 g3 ((x2.repL (x1.repL h4)).setN (.int (g y b)) j) (by rw [List.length_set]; exact h5)
      exact hn _ _ _ rfl S2 (x1.s.trans (x2.s.trans x3))
    · cases e4
  · cases e4
theorem s_augN {op : Operator} {g : Int → Int → Int} {npos : Pos} (ho : PIp X op (ipI g)) (hN : X.N.Nodup) (hi : X.N[i]? = some x) (hx : Loc X.env.scope x) (he : EV m X e fe)
    (hf : X.fn x = true ∨ X.env.scope.names.lookup x = some .local := by first | exact .inl rfl | exact .inr rfl | assumption) : SV X (.AugAssign (.Name x npos) op e pos) (augN_ g i fe) := by
  refine ⟨(ps_aug hN hi hx he.pe ho hf).imp ?_⟩
  intro D σ H h'
  obtain ⟨ow, ρ, env, st, fl, st', S, e, hn, hr⟩ := tS_use h'
  unfold augN_ at e
  split at e
  · rename_i a ha
    obtain ⟨w, st1, e1, e2⟩ := R.bind_ok e
    split at e2 <;> cases e2
    obtain ⟨v, h1, h2⟩ := S.e.at_ i _ ha
    obtain ⟨pk, _⟩ := h2
    cases pk with
    | w r =>
      cases r
      refine ⟨_, h1, ow, ρ, env, st, S, _, _, e1, fun v c1 x1 s1 w1 r1 => ?_⟩
      cases r1
      exact ⟨_, _, rfl, rfl, hn _ _ c1 rfl ((S.exs x1 s1 w1).put (.int _)) x1.s⟩
  · cases e

/-! ### a thing of one's own stands from now on -/
theorem Cf.fre {c : Cf} {a : Addr} {u : HO} (h : c.H a = some u) (o : HO) : ∀ b, b ≠ a → (Cf.mk (updW c.ow a none) (upd c.H a o) c.ρ).ow b = c.ow b ∧ (Cf.mk (updW c.ow a none) (upd c.H a o) c.ρ).H b = c.H b := fun b e => ⟨updW_ne e, upd_ne e⟩
theorem Sm.freeze {K : PySem.W.Frag} {c : Cf} {env : Env} {st : Store} {σ : L2.St} {a : Addr} {o : HO} {w : W} (S : Sm K c env st σ) (hv : σ[i]? = some (some (.ref a))) (ho : c.ow a = some (.env i))
    (hr : ∀ c', c'.ow a = none → c'.H a = some o → c'.ρ = c.ρ → Frz c c' → RepC K c' w (.ref a)) : Sm K ⟨updW c.ow a none, upd c.H a o, c.ρ⟩ (env.set i (some (.w w))) st σ ∧ ExS c ⟨updW c.ow a none, upd c.H a o, c.ρ⟩ := by
  have ne : ∀ b, c.ow b ≠ some (.env i) → b ≠ a := fun b h e => by rw [e] at h; exact h ho
  have fz : Frz c ⟨updW c.ow a none, upd c.H a o, c.ρ⟩ := fun b u h e => by
    have := ne b (by rw [h]; simp)
    exact ⟨(updW_ne this).trans h, (upd_ne this).trans e⟩
  have kp : ∀ b q, c.ow b = some q → q ≠ .env i → (Cf.mk (updW c.ow a none) (upd c.H a o) c.ρ).ow b = some q ∧ (Cf.mk (updW c.ow a none) (upd c.H a o) c.ρ).H b = c.H b := fun b q h hq => by
    have := ne b (by rw [h]; simpa using hq)
    exact ⟨(updW_ne this).trans h, upd_ne this⟩
  refine ⟨⟨S.e.mut hv ⟨.w (hr _ updW_same upd_same rfl fz), trivial⟩ fz (fun _ _ h => h) fun j b hj h => kp b _ h (fun z => by cases z; exact hj rfl), S.s.keep fz rfl (fun b n h => kp b _ h (fun z => by cases z)) (fun b n f h => kp b _ h (fun z => by cases z)), fun b q h => ?_⟩, ⟨fz, fun b h => kp b _ h (fun z => by cases z), fun _ _ h => h⟩⟩
  by_cases e : b = a
  · subst e; exact ⟨o, upd_same⟩
  · have h' : c.ow b = some q := (updW_ne e).symm.trans h
    obtain ⟨u, hu⟩ := S.wf b q h'
    exact ⟨u, (upd_ne e).trans hu⟩
theorem upd_self {H : Hp} {a : Addr} {o : HO} (h : H a = some o) : upd H a o = H := by
  funext b
  by_cases e : b = a
  · subst e; rw [upd_same, h]
  · rw [upd_ne e]
theorem Sm.freezeL {K : PySem.W.Frag} {c : Cf} {env : Env} {st : Store} {σ : L2.St} {ws : List W} (S : Sm K c env st σ) (h : env[i]? = some (some (.ol ws))) :
    ∃ ow', Sm K ⟨ow', c.H, c.ρ⟩ (env.set i (some (.w (.lst ws)))) st σ ∧ ExS c ⟨ow', c.H, c.ρ⟩ := by
  obtain ⟨a, vs, h1, h2, h3, h4, h5⟩ := S.lst h
  have := S.freeze (o := .lst vs) (w := .lst ws) h1 h2 fun c' q1 q2 q3 q4 => .lst (by rw [Cf.fz_of q1]; exact q2) (h4.mono (fz_le q4) fun n b z => by rw [q3]; exact z) h5
  rw [upd_self h3] at this
  exact ⟨_, this⟩
/-- a dict of ours is locked for ever -/
theorem pss_lock {t : TS} (h : PSs X ss t) : PSs X ss (fun D σ H => t D σ H ∨ ∃ d u, H d = some u ∧ Mut (some u) ∧ ∀ od, t D σ (upd H d (.frz od u))) := by
  refine ⟨fun pins s σ H D I hw => ?_⟩
  rcases hw with hw | ⟨d, u, hd, mu, q⟩
  · exact h.run pins s σ H D I hw
  · obtain ⟨od, I2⟩ := I.lock hd mu
    exact h.run pins s σ _ D I2 (q od)
theorem ss_freeze (i : Nat) (h : SSV X ss f) : SSV X ss (freeze_ i f) := by
  refine ⟨(pss_lock h.pss).imp ?_⟩
  intro D σ H h'
  obtain ⟨ow, ρ, env, st, fl, st', S, e, hn, hr⟩ := tS_use h'
  unfold freeze_ at e
  split at e
  · rename_i xs hx
    obtain ⟨ow', S', x'⟩ := S.freezeL hx
    exact .inl (tS_mono S' e (fun env' σ' c' z S2 y => hn env' σ' c' z S2 (x'.trans y)) fun w v c' z s wf r y => hr w v c' z s wf r (x'.trans y))
  · rename_i xs hx
    obtain ⟨a, vs, h1, h2, h3, h4, h5⟩ := S.dct hx
    refine .inr ⟨a, _, h3, trivial, fun od => ?_⟩
    obtain ⟨S', x'⟩ := S.freeze (o := .frz od (.dK vs)) (w := .dct xs) h1 h2 fun c' q1 q2 q3 q4 => .dct (by rw [Cf.fz_of q1]; exact q2) (h4.mono (fz_le q4) fun n b z => by rw [q3]; exact z) h5
    exact tS_mono S' e (fun env' σ' c' z S2 y => hn env' σ' c' z S2 (x'.trans y)) fun w v c' z s wf r y => hr w v c' z s wf r (x'.trans y)
  · exact .inl (tS_mono S e (fun env' σ' c' z S2 y => hn env' σ' c' z S2 y) fun w v c' z s wf r y => hr w v c' z s wf r y)
theorem s_retO (hN : X.N[i]? = some x) (hv : Vis X.env.scope x) (hd : (x == ("__debug__" : Str)) = false := by decide) (hcd : (x == ("__classdict__" : Str)) = false := by decide) : SV X (.Return (some (.Name x kpos)) pos) (retO_ i) := by
  have P : PE X (.Name x kpos) (fun σ H Q => tVar i σ H Q ∨ ∃ d u, σ[i]? = some (some (.ref d)) ∧ H d = some u ∧ Mut (some u) ∧ ∀ od, Q (.ref d) (upd H d (.frz od u))) := by
    refine ⟨fun pins s σ H Q I h => ?_⟩
    rcases h with h | ⟨d, u, h1, h2, mu, q⟩
    · exact (pe_var hN hv hd hcd).run pins s σ H Q I h
    · exact (PE.lock (pe_var hN hv hd hcd)).run pins s σ H Q I ⟨_, h1, d, u, h2, mu, q⟩
  refine ⟨(ps_ret P).imp ?_⟩
  intro D σ H h'
  obtain ⟨ow, ρ, env, st, fl, st', S, e, hn, hr⟩ := tS_use h'
  unfold retO_ at e
  split at e
  · rename_i xs hx
    cases e
    obtain ⟨ow', S', x'⟩ := S.freezeL hx
    obtain ⟨a, vs, h1, h2, h3, h4, h5⟩ := S.lst hx
    have hlt : i < env.length := (List.getElem?_eq_some_iff.mp hx).1
    obtain ⟨v, q1, q2⟩ := S'.e.at_ i _ (List.getElem?_set_self hlt)
    obtain ⟨pk, _⟩ := q2
    cases pk with
    | w r => exact .inl ⟨v, q1, hr _ v ⟨ow', H, ρ⟩ rfl S'.s S'.wf r x'⟩
  · rename_i xs hx
    cases e
    obtain ⟨a, vs, h1, h2, h3, h4, h5⟩ := S.dct hx
    refine .inr ⟨a, _, h1, h3, trivial, fun od => ?_⟩
    obtain ⟨S', x'⟩ := S.freeze (o := .frz od (.dK vs)) (w := .dct xs) h1 h2 fun c' q1 q2 q3 q4 => .dct (by rw [Cf.fz_of q1]; exact q2) (h4.mono (fz_le q4) fun n b z => by rw [q3]; exact z) h5
    have hlt : i < env.length := (List.getElem?_eq_some_iff.mp hx).1
    obtain ⟨v, q1, q2⟩ := S'.e.at_ i _ (List.getElem?_set_self hlt)
    rw [h1] at q1
    cases q1
    obtain ⟨pk, _⟩ := q2
    cases pk with
    | w r => exact hr _ _ _ rfl S'.s S'.wf r x'
  · rename_i y hx
    cases e
    obtain ⟨v, h1, h2⟩ := S.e.at_ i _ hx
    obtain ⟨pk, _⟩ := h2
    cases pk with
    | w r => exact .inl ⟨v, h1, hr _ v ⟨ow, H, ρ⟩ rfl S.s S.wf r (ExS.refl _)⟩
  · cases e
end
end Cr
/-! Cr12: own defs, their calls; shared dicts; the law's end. -/
namespace Cr
open PySem PySem.Spec PyProof.Rows L2

/-- a def's promise -/
def spF (K : PySem.W.Frag) (n : Nat) (f : Df) : Sp := fun vs H Q _ => ∃ ow ρ ws st, vs.length = n ∧ RepLC K ⟨ow, H, ρ⟩ ws vs ∧ StR K ⟨ow, H, ρ⟩ st ∧ Wf ⟨ow, H, ρ⟩ ∧ (∀ a i, ow a ≠ some (.env i)) ∧ ∃ w st', f ws st = .ok w st' ∧
  ∀ v c', ExS ⟨ow, H, ρ⟩ c' → StR K c' st' → Wf c' → RepC K c' w v → Q v c'.H
def run_ (n : Nat) (body : Sf) : Df := fun ws st => (body (ws.map (fun w => some (.w w)) ++ List.replicate (n - ws.length) none) st).bind fun fl st1 => match fl with
  | .nx _ => .ok .non st1
  | .rt w => .ok w st1
def call_ (f : Df) (fa : Af) : Ef := fun env st => (fa env st).bind fun ws st1 => f ws st1

theorem EV.lift {m : Bool} {X : Cx} {e : Expr} {f : Ef} (h : EV true X e f) : EV m X e f := by
  cases m with
  | true => exact h
  | false => exact h.gen
section
variable {K : PySem.W.Frag}
/-- for a callee: what is ours is out of reach -/
def Ow.cal (ow : Ow) : Ow := fun a => match ow a with
  | some (.env _) => some .out
  | o => o
/-- behind a call -/
def Ow.back (ow ow' : Ow) : Ow := fun a => match ow a with
  | some (.env i) => some (.env i)
  | some .out => some .out
  | _ => match ow' a with
    | some (.env _) => none
    | some .out => none
    | o => o
theorem cal_none {ow : Ow} {a : Addr} : ow.cal a = none ↔ ow a = none := by
  unfold Ow.cal
  cases h : ow a with
  | none => simp
  | some p => cases p <;> simp
theorem cal_fz {ow : Ow} {H : Hp} {ρ : List Addr} : (Cf.mk ow.cal H ρ).fz = (Cf.mk ow H ρ).fz := by
  funext a
  unfold Cf.fz
  cases h : ow a with
  | none => simp only [cal_none.mpr h, h]
  | some p =>
    cases h' : ow.cal a with
    | none => rw [cal_none.mp h'] at h; cases h
    | some p' => simp only [h, h']
theorem StR.cal {ow : Ow} {H : Hp} {ρ : List Addr} {st : Store} (s : StR K ⟨ow, H, ρ⟩ st) : StR K ⟨ow.cal, H, ρ⟩ st := by
  refine s.keep (fun a o h e => ⟨cal_none.mpr h, e⟩) rfl (fun a n h => ⟨?_, rfl⟩) fun a n f h => ⟨?_, rfl⟩
  · have h : ow a = some (.obj n) := h
    show ow.cal a = _
    unfold Ow.cal; rw [h]
  · have h : ow a = some (.fld n f) := h
    show ow.cal a = _
    unfold Ow.cal; rw [h]
theorem call_imp {n : Nat} {f : Df} {fa : Af} {E : XK} {m : Bool} (hn : ∀ env st ws st', fa env st = .ok ws st' → ws.length = n) : ∀ σ H Q, tEf K false (call_ f fa) σ H Q → tCall (spF K n f) [] E (tAf K m fa) σ H Q := by
  rintro σ H Q ⟨ow, ρ, env, st, S, w, st', e, q⟩
  obtain ⟨ws, st1, e1, e2⟩ := R.bind_ok e
  refine ⟨ow, ρ, env, st, S, ws, st1, e1, fun vs c2 x s wf r => ?_⟩
  have fzE : (Cf.mk c2.ow.cal c2.H c2.ρ).fz = c2.fz := cal_fz
  refine ⟨c2.ow.cal, c2.ρ, ws, st1, ?_, ?_, s.cal, ?_, ?_, w, st', e2, fun v c' y s' wf' r' => ?_⟩
  · rw [List.append_nil, ← r.length]; exact hn _ _ _ _ e1
  · rw [List.append_nil]
    show RepL K (Cf.mk c2.ow.cal c2.H c2.ρ).fz c2.ρ ws vs
    rw [fzE]; exact r
  · intro a p h
    cases h' : c2.ow a with
    | none =>
      have h : c2.ow.cal a = some p := h
      rw [cal_none.mpr h'] at h; cases h
    | some p' => exact wf a p' h'
  · intro a i h
    unfold Ow.cal at h
    cases h' : c2.ow a with
    | none => rw [h'] at h; cases h
    | some p => rw [h'] at h; cases p <;> cases h
  · -- behind the call
    have mine : ∀ a p, c2.ow a = some p → p.mine = true → c'.ow a = some .out ∧ c'.H a = c2.H a ∧ (c2.ow.back c'.ow) a = some p := fun a p h hp => by
      have hc : c2.ow.cal a = some .out := by unfold Ow.cal; rw [h]; cases p <;> first | rfl | cases hp
      obtain ⟨h1, h2⟩ := y.out a hc
      refine ⟨h1, h2, ?_⟩
      unfold Ow.back; rw [h]; cases p <;> first | rfl | cases hp
    have back : ∀ a p, c'.ow a = some p → p ≠ .out → (∀ i, p ≠ .env i) → (c2.ow.back c'.ow) a = some p := fun a p h h1 h2 => by
      unfold Ow.back
      cases h' : c2.ow a with
      | none => simp only [h]; cases p <;> first | rfl | exact absurd rfl h1 | exact absurd rfl (h2 _)
      | some p' =>
        by_cases hm : p'.mine = true
        · obtain ⟨g, _, _⟩ := mine a p' h' hm
          rw [h] at g; cases g; exact absurd rfl h1
        · cases p' <;> first | exact absurd rfl hm | (simp only [h]; cases p <;> first | rfl | exact absurd rfl h1 | exact absurd rfl (h2 _))
    have none' : ∀ a, c'.ow a = none → (c2.ow.back c'.ow) a = none := fun a h => by
      unfold Ow.back
      cases h' : c2.ow a with
      | none => simp only [h]
      | some p' =>
        by_cases hm : p'.mine = true
        · obtain ⟨g, _, _⟩ := mine a p' h' hm
          rw [h] at g; cases g
        · cases p' <;> first | exact absurd rfl hm | simp only [h]
    have fz : Frz c' ⟨c2.ow.back c'.ow, c'.H, c'.ρ⟩ := fun a o h e => ⟨none' a h, e⟩
    refine q v ⟨c2.ow.back c'.ow, c'.H, c'.ρ⟩ (x.gen.trans ⟨fun a o h e => ?_, fun a p h hp => ?_, y.loc, fun z => nomatch z⟩) (s'.keep fz rfl (fun a n h => ⟨back a _ h (fun z => by cases z) (fun i z => by cases z), rfl⟩) fun a n f h => ⟨back a _ h (fun z => by cases z) (fun i z => by cases z), rfl⟩) ?_ (r'.mono (fz_le fz) fun _ _ h => h)
    · obtain ⟨h1, h2⟩ := y.frz a o (cal_none.mpr h) e
      exact ⟨none' a h1, h2⟩
    · obtain ⟨_, h2, h3⟩ := mine a p h hp
      exact ⟨h3, h2⟩
    · intro a p h
      cases h' : c'.ow a with
      | none =>
        have h : (c2.ow.back c'.ow) a = some p := h
        rw [none' a h'] at h; cases h
      | some p' => exact wf' a p' h'
end
theorem nil_len : ∀ env st ws st', nil_ env st = .ok ws st' → ws.length = 0 := fun _ _ _ _ h => by cases h; rfl
theorem cons_len {f : Ef} {r : Af} {n : Nat} (h : ∀ env st ws st', r env st = .ok ws st' → ws.length = n) : ∀ env st ws st', cons_ f r env st = .ok ws st' → ws.length = n + 1 := fun env st ws st' e => by
  obtain ⟨x, st1, e1, e2⟩ := R.bind_ok e
  obtain ⟨xs, st2, e3, e4⟩ := R.bind_ok e2
  cases e4
  rw [List.length_cons, h _ _ _ _ e3]
/-! ### a def's promise where no guard of repr is held -/
/-- as FnOk, for the runs within which nothing is being shown -/
structure FnG (P : Program) (w : World) (K : PySem.W.Frag) (mg : Str → Option Value) (base : Heap) (CX : CXT) (k : Nat) (f : Addr) (fd : FuncData) (ps : List Str) (sp : Sp) : Prop where
  len : ∀ vs H Q E, sp vs H Q E → vs.length = ps.length
  run : ∀ (A : Around) (outer : List PySem.Env) (s : Shared) (H : Hp) (args : Args) (us : List Value) (vs : List V) (Q : VK) (E : XK), Room k A → A.guards = some [] →
    Env0 P w K mg base A outer s H → BindsTo s fd args (ps.zip us) → Vals vs us → sp vs H Q E → codeAny (model P w) A (.call (.ref f) args) (CR CX outer P w H s Q E) s
section
variable {X : Cx} {m : Bool} {k n : Nat} {fA : Addr} {fd : FuncData} {ps : List Str} {x : Str} {p pos : Pos} {e : Expr} {es : List Expr} {fa : Af} {f : Df} {sp : Sp} {E : XK} {CX : CXT} {t : TA}
theorem run_g {pins : List (Addr × PySem.Obj)} {σ : L2.St} {H : Hp} {s : Shared} {Q : VK} {us : List Value} {vs : List V} (F : FnG X.prog X.w X.K X.mg X.base CX k fA fd ps sp) (hr : Room k X.A) (hg : X.A.guards = some []) (hb : Binds X.K fd ps [])
    (hx : Passes CX X E) (I : Inv X pins σ H s) (r : Vals vs us) (h : sp vs H Q E) : wpAny (model X.prog X.w) X.A (call (.ref fA) us) (EP X pins σ Q) X.xe s := by
  have hl : us.length = ps.length := r.length.symm.trans (F.len _ _ _ _ h)
  have hb' : BindsTo s fd ⟨us, []⟩ (ps.zip us) := by
    have := hb s us I.kIn (by rw [List.append_nil]; exact hl)
    rwa [List.append_nil] at this
  refine wpAny_call (codeAny_mono (F.run X.A X.stack s H ⟨us, []⟩ us vs Q E hr hg I.env0 hb' r h) fun r s' hq => ?_)
  match r, hq with
  | .error e, hq => exact hx pins σ H s e s' I hq
  | .ok (.ret u), hq => exact I.after hq
  | .ok .next, hq => exact hq.elim
  | .ok .brk, hq => exact hq.elim
  | .ok .cont, hq => exact hq.elim
theorem pe_callG (F : FnG X.prog X.w X.K X.mg X.base CX k fA fd ps sp) (hr : Room k X.A) (hgd : X.A.guards = some []) (hg : Gl X x) (hm : X.mg x = some (.ref fA)) (hk : PySem.W.keepIn X.K (.ref fA) = true) (hb : Binds X.K fd ps []) (hx : Passes CX X E)
    (ha : PA X (e :: es) t) (hdb : (x == ("__debug__" : Str)) = false := by decide) (he : starEach (e :: es) X.env = (false, eval e X.env) :: starEach es X.env := by rfl) (hpl : (backTo pos (starEach es X.env)).any (·.1) = false := by rfl) :
    PE X (.Call (.Name x p) (e :: es) [] pos) (tCall sp [] E t) :=
  ⟨fun pins s σ H Q I h => wpAny_Call_Name_kw (ld_glob I hg hm (PySem.W.callWith_K (h₀ := X.base) I.ok.mod.kin hk
    (thn (ha.run pos pins s σ H _ I h) fun us s1 ⟨vs, H1, I1, r, q⟩ => ⟨I1.kIn, run_g F hr hgd hb hx I1 r (by have q : sp (vs ++ []) H1 Q E := q; rwa [List.append_nil] at q)⟩) he hpl) hdb)⟩
theorem e_call (F : FnG X.prog X.w X.K X.mg X.base CX0 k fA fd ps (spF X.K n f)) (hr : Room k X.A) (hgd : X.A.guards = some []) (hg : Gl X x) (hm : X.mg x = some (.ref fA)) (hk : PySem.W.keepIn X.K (.ref fA) = true) (hb : Binds X.K fd ps [])
    (ha : AV m X (e :: es) fa) (hn : ∀ env st ws st', fa env st = .ok ws st' → ws.length = n) (hdb : (x == ("__debug__" : Str)) = false := by decide) (he : starEach (e :: es) X.env = (false, eval e X.env) :: starEach es X.env := by rfl) (hpl : (backTo pos (starEach es X.env)).any (·.1) = false := by rfl) :
    EV false X (.Call (.Name x p) (e :: es) [] pos) (call_ f fa) :=
  ⟨(pe_callG F hr hgd hg hm hk hb pass0 ha.pa hdb he hpl).imp (call_imp hn)⟩
end

/-! ### a def -/
section
variable {P : Program} {w : World} {K : PySem.W.Frag} {mg : Str → Option Value} {base : Heap}
theorem start_env {c : Cf} {ws : List W} {vs : List V} (N : List Str) (r : RepLC K c ws vs) : EnvR K c (ws.map (fun w => some (.w w)) ++ List.replicate (N.length - ws.length) none) (L2.start N vs) := by
  have hl := r.length
  refine ⟨?_, fun i o h => ?_⟩
  · unfold L2.start
    rw [List.length_append, List.length_append, List.length_map, List.length_map, List.length_replicate, List.length_replicate, hl]
  · by_cases hi : i < ws.length
    · rw [List.getElem?_append_left (by rw [List.length_map]; exact hi), List.getElem?_map] at h
      obtain ⟨w0, h1, h2⟩ := Option.map_eq_some_iff.mp h
      cases h2
      obtain ⟨v, h3, h4⟩ := r.get h1
      refine ⟨v, ?_, .w h4, trivial⟩
      unfold L2.start
      rw [List.getElem?_append_left (by rw [List.length_map]; omega), List.getElem?_map, h3]
      rfl
    · rw [List.getElem?_append_right (by rw [List.length_map]; omega), List.getElem?_replicate] at h
      split at h <;> cases h
/-- a def by its body, run where no guard is held -/
theorem fn_ofG {CX : CXT} {x qual : Str} {st : Stmt} {f : Addr} {fd : FuncData} {N ps : List Str} {k : Nat} {sp : Sp} (F : Fun K x qual st f fd) (S : FnScope N ps (defScope st)) (len : ∀ vs H Q E, sp vs H Q E → vs.length = ps.length)
    (hb : ∀ (cdv : Value) (A : Around) (outer : List PySem.Env) (s : Shared) (H : Hp) (vs : List V) (Q : VK) (E : XK), Room k (A.deeper (envOfC qual (defScope st) s.heap.objs.size f cdv)) → A.guards = some [] → sp vs H Q E →
      ∃ t, PSs (cxOf CX P w K mg base N qual (defScope st) f cdv A outer s H E) (defBody st) t ∧ t { nx := fun _ H' => Q .non H', rt := Q } (L2.start N vs) H) : FnG P w K mg base CX (k + 1) f fd ps sp := by
  obtain ⟨oc, od, kV, doc, pm, an, cdv, ct, osl, rfl, lk, hcd⟩ := F.ex
  constructor
  · exact len
  · intro A outer s H args us vs Q E hr hgd e0 bt r hsp
    have hl := len _ _ _ _ hsp
    have kp : ∀ b o, base.get? b = some o → s.heap.get? b = some o := fun b o e => (e0.bs b o e).1
    have KX := e0.mod.kin.keeps kp
    have names : ∀ y ∈ ps.zip us, (defScope st).names.lookup y.1 = some .local ∨ ((defScope st).names.lookup y.1 = some .cell ∧ ((cellsFrom (s.heap.objs.size + 1) (defScope st).names []).lookup y.1).isSome = true) := by
      rintro ⟨n, v⟩ hy
      exact (S.par n (List.of_mem_zip hy).1).imp id fun q => ⟨q, PySem.W.cellsFrom_some _ _ _ (.inl q)⟩
    refine codeAny_call_function hr.depth (KX _ _ lk) rfl S.co S.gen rfl (PySem.W.codeRec_of KX hcd)
      (bt _ _ _ _ (wpAny_newFunctionEnv_cells S.kind names fun env he s1 y => ?_))
    subst he
    refine ⟨(e0.mod.nolimit.keeps kp).keeps y.toInCall.keep, codeAny_func ?_⟩
    obtain ⟨t, ht, hq⟩ := hb cdv A outer s H vs Q E (hr.deeper _) hgd hsp
    have I := inv_start (CX := CX) (E := E) S hr.hd e0 hl r y
    refine wpAny_mono (ht.run [] s1 _ H _ I hq) (fun fl s' hs => ?_) fun _ _ z => z
    match fl, hs with
    | .ret u, ⟨v, σ', H', J, rv, q⟩ => exact ⟨v, H', J.os, J.bare, J.base, J.hok, rv, q⟩
    | .next, ⟨σ', H', J, q⟩ => exact ⟨.non, H', J.os, J.bare, J.base, J.hok, rfl, q⟩
    | .brk, ⟨_, _, _, q⟩ => exact q.elim
    | .cont, ⟨_, _, _, q⟩ => exact q.elim
theorem d_ok {x qual : Str} {st : Stmt} {f : Addr} {fd : FuncData} {N ps : List Str} {k : Nat} {body : Sf} (F : Fun K x qual st f fd) (S : FnScope N ps (defScope st))
    (hb : ∀ (cdv : Value) (A : Around) (outer : List PySem.Env) (s : Shared) (H : Hp) (E : XK), Room k (A.deeper (envOfC qual (defScope st) s.heap.objs.size f cdv)) → A.guards = some [] → SSV (cxOf CX0 P w K mg base N qual (defScope st) f cdv A outer s H E).nox (defBody st) body) :
    FnG P w K mg base CX0 (k + 1) f fd ps (spF K ps.length (run_ N.length body)) := by
  refine fn_ofG F S (fun vs H Q E h => ?_) fun cdv A outer s H vs Q E hr hgd h => ?_
  · obtain ⟨_, _, _, _, h, _⟩ := h
    exact h
  · obtain ⟨ow, ρ, ws, st0, hl, r, sr, wf, hne, wv, st', e, q⟩ := h
    refine ⟨_, (hb cdv A outer s H E hr hgd).pss.nox, ?_⟩
    obtain ⟨fl, st1, e1, e2⟩ := R.bind_ok e
    refine tS_mono (K := K) (ow := ow) (ρ := ρ) ⟨start_env N r, sr, wf⟩ e1 (fun env' σ' c' z S' y => ?_) fun w v c' z s wf r y => ?_
    · subst z
      cases e2
      exact q .non c' y S'.s S'.wf .non
    · subst z
      cases e2
      exact q v c' y s wf r
/-- a promise for the law: a list of at most 63 ints is handed in, True comes out -/
def spLaw (K : PySem.W.Frag) : Sp := fun vs H Q _ => ∃ (a : Addr) (ns : List Int), vs = [.ref a] ∧ SqL K H a (ns.map V.int) ∧ ns.length ≤ 63 ∧ ∀ H', Q (.bl true) H'
theorem law_ok {CX : CXT} {k : Nat} {f : Addr} {fd : FuncData} {ps : List Str} {g : Df} (F : FnG P w K mg base CX k f fd ps (spF K 1 g)) (h : ∀ ns : List Int, ns.length ≤ 63 → ∃ st', g [.scr ns] [] = .ok (.bl true) st') : FnG P w K mg base CX k f fd ps (spLaw K) := by
  have i : ∀ vs H Q E, spLaw K vs H Q E → spF K 1 g vs H Q E := by
    rintro vs H Q E ⟨a, ns, rfl, hs, hl, q⟩
    obtain ⟨st', e⟩ := h ns hl
    have fz : (Cf.mk (fun _ => none) H []).fz = H := rfl
    refine ⟨fun _ => none, [], [.scr ns], [], rfl, .cons (.scr (by rw [fz]; exact hs) (Nat.le_trans hl (by decide))) .nil, ⟨rfl, (fun n ob h => by simp at h)⟩, (fun a p h => nomatch h), (fun a i h => nomatch h), _, st', e, fun v c' _ _ _ r => ?_⟩
    cases r
    exact q _
  exact ⟨fun vs H Q E z => F.len vs H Q E (i _ _ _ _ z), fun A outer s H args us vs Q E hr hg e0 hb r z => F.run A outer s H args us vs Q E hr hg e0 hb r (i _ _ _ _ z)⟩

/-! ### the end of a law -/
/-- the law's def, called behind the top: nothing is tracked but the script -/
theorem law_end {CX : CXT} {mb : Str → Option Value} {k : Nat} {fa a : Addr} {fd : FuncData} {x : Str} {s1 : Shared} {vs : List Value} {ns : List Int} (KX : K.In s1.heap) (hns : s1.heap.Ns mainGlobals mg)
    (hbn : s1.heap.Ns builtinsNs mb) (hbb : ∀ x : Str, x ≠ "__name__" → mb x = bootBuiltins x) (hlim : s1.heap.NoLimit) (hgens : s1.gens = #[]) (ha : s1.heap.get? a = some { cls := .type "list", data := .seq vs.toArray }) (hi : IntsAre vs ns)
    (hl : ns.length ≤ 63) (hr : Room k callerA) (F : ∀ base : Heap, K.In base → base.Ns mainGlobals mg → FnG P w K mg base CX k fa fd [x] (spLaw K)) (hbind : ∀ (s : Shared) (u : Value), BindsTo s fd ⟨[u], []⟩ [(x, u)])
    (hCX : ∀ H e s', CX [] H s1 (fun _ _ _ => False) e s' → False) :
    codeAny (model P w) callerA (.call (.ref fa) ⟨[.ref a], []⟩) (fun r s' => r = .ok (.ret (.bool true)) ∧ OldK s1.heap s'.heap ∧ s'.os = s1.os ∧ AllBare s'.gens) s1 := by
  have rv := vals_ints hi
  have hz : ns.length ≤ sizeLine := Nat.le_trans hl (by decide)
  suffices main : ∀ H : Hp, SqL K H a (ns.map V.int) → HOk P w H s1.heap → (∀ b u, H b = some u → b = a ∧ K.lookup a = none ∧ ∃ o xs, u = .frz o (.lst xs)) → _ by
    cases hk : K.lookup a with
    | some o =>
      obtain rfl : _ = o := Option.some.inj (ha.symm.trans (KX a o hk))
      refine main (fun _ => none) (.inr ⟨_, vs.toArray, _, hk, rfl, rfl, rfl, ?_, by simpa using rv⟩) (fun b u z => nomatch z) fun b u z => nomatch z
      rw [List.size_toArray, hi.length]; exact hz
    | none =>
      refine main (fun b => if b = a then some (.frz { cls := .type "list", data := .seq vs.toArray } (.lst (ns.map V.int))) else none) (.inl (.inr ⟨_, if_pos rfl⟩)) (fun b u z => ?_) fun b u z => ?_
      all_goals
        by_cases e : b = a
        · subst e
          have z' := (if_pos rfl).symm.trans z
          cases z'
          first | exact ⟨ha, by rw [List.length_map]; exact hz, vs, _, rv, ha⟩ | exact ⟨rfl, hk, _, _, rfl⟩
        · have z' := (if_neg e).symm.trans z
          cases z'
  intro H hS hok hA
  have keepN : ∀ {b : Addr} {o : PySem.Obj}, s1.heap.get? b = some o → (b = a → False) → (hidT s1.heap H).get? b = some o := fun {b o} e ne => hidT_get e (by
    cases q : H b with
    | none => rfl
    | some u => exact (ne (hA b u q).1).elim)
  have nsK : ∀ {b : Addr} {m : Str → Option Value}, s1.heap.Ns b m → (hidT s1.heap H).Ns b m := fun {b m} ⟨o, es, ep, e, d, r⟩ => ⟨o, es, ep, keepN e (fun z => by
    subst z
    obtain rfl := Option.some.inj (ha.symm.trans e)
    cases (show Data.seq vs.toArray _ = Data.dict es ep from d)), d, r⟩
  have hKb : K.In (hidT s1.heap H) := fun b o e => by
    refine hidT_get (KX b o e) ?_
    cases q : H b with
    | none => rfl
    | some u =>
      obtain ⟨rfl, h, _⟩ := hA b u q
      rw [h] at e; cases e
  have e0 : Env0 P w K mg (hidT s1.heap H) callerA [] s1 H :=
    ⟨rfl, ⟨hKb, nsK hns, ⟨mb, nsK hbn, hbb⟩, let ⟨mc, h1, h2⟩ := hlim; ⟨mc, nsK h1, h2⟩⟩, fun b o e => of_hidT e, Nat.le_of_eq (hidT_size _ _), trivial, (fun b hb => nomatch hb), hok, .of_eq hgens⟩
  have start := (F _ hKb (nsK hns)).run callerA [] s1 H ⟨[.ref a], []⟩ [.ref a] [.ref a] (fun v _ => v = .bl true) (fun _ _ _ => False) hr rfl e0 (hbind s1 (.ref a)) (.cons rfl .nil) ⟨a, ns, rfl, hS, hl, fun _ => rfl⟩
  refine codeAny_mono start fun r s' h => ?_
  match r, h with
  | .error e, h => exact (hCX H e s' h).elim
  | .ok .next, h => exact h.elim
  | .ok .brk, h => exact h.elim
  | .ok .cont, h => exact h.elim
  | .ok (.ret u), ⟨v, H', os, bare, un, hok', r', q⟩ =>
    subst q
    refine ⟨by rw [show u = Value.bool true from r'], OldK.of_keep fun b o e => ?_, os, bare⟩
    cases hb : H b with
    | none => exact un.keep b o e hb (fun z => nomatch z) (fun z => nomatch z)
    | some u =>
      obtain ⟨_, _, ob, xs, rfl⟩ := hA b u hb
      obtain ⟨e1, _⟩ := hok b _ hb
      obtain ⟨e2, _⟩ := hok' b _ (un.frzs b ob _ hb)
      rw [e] at e1
      cases e1
      exact e2
end
theorem walk_law {l : PySem.W.OpenLaw} {k : Nat} {q : Program} {loose : List Str} {XP : (Str → Option Value) → Heap → Prop} {YP : World → Heap → Prop} {d : DefRec} {K : Params → PySem.W.Frag} {CX : World → CXT} {x : Str} (hn : l.most = some 63) (hdf : d.params.defaults = []) (hr : Room k callerA)
    (hY : ∀ (w : World) (h : Heap), YP w h → (K w.params).In h)
    (F : ∀ (w : World) (mg : Str → Option Value) (fa : Addr) (h : Heap), (K w.params).In h → h.Ns mainGlobals mg → mg d.name = some (.ref fa) → ∃ fd : FuncData, (∀ (s : Shared) (u : Value), BindsTo s fd ⟨[u], []⟩ [(x, u)]) ∧
      ∀ base : Heap, (K w.params).In base → base.Ns mainGlobals mg → FnG l.prog w (K w.params) mg base (CX w) k fa fd [x] (spLaw (K w.params)))
    (hCX : ∀ (w : World) (H : Hp) (s : Shared) (e : Value) (s' : Shared), CX w [] H s (fun _ _ _ => False) e s' → False) : PySem.W.WalkO q loose XP YP l.row.toRowW d [] (fun f vs => PySem.call f vs) :=
  Att.attach_call hn hdf fun w s0 s1 mg mb fa o pm cd doc a vs ns G Y ho hd hcd hmg hobj hints hlen hg => by
    obtain ⟨fd, hb, hF⟩ := F w mg fa _ (hY w _ Y) G.T.g hmg
    exact law_end (hY w _ Y) G.T.g G.T.b G.T.builtins G.T.nolimit hg hobj hints hlen hr hF hb fun H e s' => hCX w H s1 e s'
end Cr
/-! Cr13: shared dicts, repr, ranges as tuples, get. -/
namespace Cr
open PySem PySem.Spec PyProof.Rows L2

/-! ### a new shared dict -/
def sd2_ (n1 n2 : Str) (f1 f2 : Ef) : Ef := fun env st => (f1 env st).bind fun x st1 => (f2 env st1).bind fun y st2 => .ok (.ref st2.length) (st2 ++ [⟨none, [(n1, .w x), (n2, .w y)]⟩])
section
variable {K : PySem.W.Frag}
theorem StR.grow {c c1 : Cf} {st : Store} (s : StR K c st) (hf : Frz c c1) (hl : ∀ (n : Nat) (a : Addr), c.ρ[n]? = some a → c1.ρ[n]? = some a) (ho : ∀ a n, c.ow a = some (.obj n) → c1.ow a = some (.obj n) ∧ c1.H a = c.H a)
    (hp : ∀ a n f, c.ow a = some (.fld n f) → c1.ow a = some (.fld n f) ∧ c1.H a = c.H a) {n : Nat} {ob : Ob} (q : st[n]? = some ob) : ∃ a, c1.ρ[n]? = some a ∧ ObR K c1 n ob a := by
  obtain ⟨a, h1, h2⟩ := s.at_ n ob q
  refine ⟨a, hl _ _ h1, ?_⟩
  cases h2 with
  | dict e1 e2 e3 r =>
    obtain ⟨x, y⟩ := ho _ _ e2
    exact .dict e1 x (y.trans e3) (r.keep hf hl fun a f z => hp a _ f z)
theorem mergeK_two {n1 n2 : Str} {v1 v2 : V} (h : n1 ≠ n2) : mergeK [] [((Sum.inr n1 : Key), v1), (Sum.inr n2, v2)] = [(Sum.inr n1, v1), (Sum.inr n2, v2)] := by
  have e : ¬ ((Sum.inr n1 : Key) = Sum.inr n2) := fun z => h (Sum.inr.inj z)
  simp [mergeK, putK, e]
end
section
variable {X : Cx} {m : Bool} {a b : Expr} {f1 f2 : Ef} {pos p1 p2 : Pos} {j1 j2 : Nat} {n1 n2 : Str}
theorem e_sd2 (h1 : EV false X a f1) (h2 : EV false X b f2) (ne : n1 ≠ n2 := by decide) : EV false X (.Dict [some (.Constant (.str n1) j1 p1), some (.Constant (.str n2) j2 p2)] [a, b] pos) (sd2_ n1 n2 f1 f2) := by
  refine ⟨PE.imp (pe_disp (pps_cons (pe_str (x := n1) (j := j1) (pos := p1)) h1.pe (pps_cons (pe_str (x := n2) (j := j2) (pos := p2)) h2.pe pps_nil)) rfl rfl (by simp) (by simp)) ?_⟩
  rintro σ H Q ⟨ow, ρ, env, st, S, w, st', e, q⟩
  obtain ⟨x, st1, e1, e⟩ := R.bind_ok e
  obtain ⟨y, st2, e2, e⟩ := R.bind_ok e
  cases e
  intro p hp
  have wf0 : Wf ⟨ow, H, ρ⟩ := S.wf
  have hp0 : (Cf.mk ow H ρ).H p = none := hp
  have x01 : Ext false ⟨ow, H, ρ⟩ ((Cf.mk ow H ρ).new p .out (.dK [])) st st := Ext.new wf0 hp0
  refine ⟨updW ow p (some .out), ρ, env, st, ⟨x01.envR S.e, Cf.new_st wf0 hp0 S.s, Cf.new_wf wf0 hp0⟩, x, st1, e1, fun v1 c1 x1 s1 w1 r1 => ?_⟩
  have S1 : Sm X.K c1 env st1 σ := ⟨x1.envR (x01.envR S.e), s1, w1⟩
  refine ⟨c1.ow, c1.ρ, env, st1, S1, y, st2, e2, fun v2 c2 x2 s2 w2 r2 => ?_⟩
  have x12 := x1.trans x2
  have x02 := x01.trans x12
  obtain ⟨o2, h2'⟩ := x12.own p .out updW_same rfl
  have hH2 : c2.H p = some (.dK []) := h2'.trans upd_same
  refine ⟨hH2, [((Sum.inr n1 : Key), v1), (Sum.inr n2, v2)], rfl, by simp, ?_⟩
  rw [mergeK_two ne]
  have hlen := s2.len
  have neP : ∀ b q', c2.ow b = some q' → q' ≠ .out → b ≠ p := fun b q' h hq z => by rw [z, o2] at h; cases h; exact hq rfl
  have fz : Frz c2 ⟨updW c2.ow p (some (.obj st2.length)), upd c2.H p (.dK [((Sum.inr n1 : Key), v1), (Sum.inr n2, v2)]), c2.ρ ++ [p]⟩ := fun b u h e => by
    have : b ≠ p := fun z => by rw [z, o2] at h; cases h
    exact ⟨(updW_ne this).trans h, (upd_ne this).trans e⟩
  have lo : ∀ (n : Nat) (b : Addr), c2.ρ[n]? = some b → (c2.ρ ++ [p])[n]? = some b := fun n b h => by
    have := (List.getElem?_eq_some_iff.mp h).1
    rw [List.getElem?_append_left this]; exact h
  have kp : ∀ b q', c2.ow b = some q' → q' ≠ .out → updW c2.ow p (some (.obj st2.length)) b = some q' ∧ upd c2.H p (.dK [((Sum.inr n1 : Key), v1), (Sum.inr n2, v2)]) b = c2.H b := fun b q' h hq =>
    ⟨(updW_ne (neP b q' h hq)).trans h, upd_ne (neP b q' h hq)⟩
  have new : (c2.ρ ++ [p])[st2.length]? = some p := by rw [hlen, List.getElem?_append_right (Nat.le_refl _), Nat.sub_self]; rfl
  refine q _ ⟨updW c2.ow p (some (.obj st2.length)), upd c2.H p (.dK [((Sum.inr n1 : Key), v1), (Sum.inr n2, v2)]), c2.ρ ++ [p]⟩ ⟨fun b u h e => ?_, fun b q' h hq => ?_, fun n b h => lo n b (x02.loc n b h), fun z => nomatch z⟩ ⟨?_, fun n ob h => ?_⟩ (fun b q' h => ?_) (.ref new)
  · obtain ⟨g1, g2⟩ := x02.frz b u h e
    exact fz b u g1 g2
  · obtain ⟨g1, g2⟩ := x02.own b q' h hq
    have nb : b ≠ p := fun z => by
      obtain ⟨u, hu⟩ := wf0 b q' h
      rw [z] at hu
      have hu : H p = some u := hu
      rw [hp] at hu; cases hu
    exact ⟨(updW_ne nb).trans g1, (upd_ne nb).trans g2⟩
  · show (st2 ++ [_]).length = (c2.ρ ++ [p]).length
    rw [List.length_append, List.length_append, hlen]; rfl
  · by_cases hn : n < st2.length
    · rw [List.getElem?_append_left hn] at h
      exact s2.grow fz lo (fun b n h => kp b _ h (fun z => by cases z)) (fun b n f h => kp b _ h (fun z => by cases z)) h
    · have hn' : n = st2.length := by
        have := (List.getElem?_eq_some_iff.mp h).1
        rw [List.length_append, List.length_singleton] at this
        omega
      subst hn'
      rw [List.getElem?_append_right (Nat.le_refl _), Nat.sub_self] at h
      cases h
      refine ⟨p, new, .dict rfl updW_same upd_same (.cons ⟨.w ?_, trivial⟩ (.cons ⟨.w ?_, trivial⟩ .nil))⟩
      · exact (x2.rep r1).mono (fz_le fz) lo
      · exact r2.mono (fz_le fz) lo
  · by_cases e : b = p
    · subst e; exact ⟨_, upd_same⟩
    · have h' : c2.ow b = some q' := (updW_ne e).symm.trans h
      obtain ⟨u, hu⟩ := w2 b q' h'
      exact ⟨u, (upd_ne e).trans hu⟩
end

/-! ### w[f] += e -/
def putO (fs : List (Str × O)) (f : Str) (o : O) : List (Str × O) := fs.map fun p => if p.1 = f then (p.1, o) else p
def fadd_ (f : Str) (fo fe : Ef) : Sf := fun env st => (fo env st).bind fun x st1 => (fe env st1).bind fun y st2 => match x, y with
  | .ref n, .int j => match st1[n]? with
    | some ob => match ob.cls, ob.fs.lookup f with
      | none, some (.w (.int i)) => if ob.fs.length < 1000 then .ok (.nx env) (st2.set n ⟨none, putO ob.fs f (.w (.int (i + j)))⟩) else .no
      | _, _ => .no
    | none => .no
  | _, _ => .no
section
variable {K : PySem.W.Frag}
theorem FldR.length {c : Cf} {n : Nat} : ∀ {fs : List (Str × O)} {vs : List (Key × V)}, FldR K c n fs vs → fs.length = vs.length
  | _, _, .nil => rfl
  | _, _, .cons _ r => by rw [List.length_cons, List.length_cons, FldR.length r]
theorem FldR.any {c : Cf} {n : Nat} {f : Str} : ∀ {fs : List (Str × O)} {vs : List (Key × V)}, FldR K c n fs vs → (fs.lookup f).isSome = true → (vs.any fun kv => decide (kv.1 = Sum.inr f)) = true
  | _, _, .nil, h => by cases h
  | _, _, .cons (f := g) h r, e => by
    rw [List.lookup_cons] at e
    by_cases q : f = g
    · subst q; simp
    · have z : (f == g) = false := by simpa using q
      rw [z] at e
      rw [List.any_cons, FldR.any r e, Bool.or_true]
theorem FldR.map {c : Cf} {n : Nat} {f : Str} {o : O} {v : V} (h : Hd K c (.fld n f) o v) : ∀ {fs : List (Str × O)} {vs : List (Key × V)}, FldR K c n fs vs → FldR K c n (putO fs f o) (vs.map fun kv => if kv.1 = Sum.inr f then (kv.1, v) else kv)
  | _, _, .nil => .nil
  | _, _, .cons (f := g) (v := v0) (o := o0) (fs := fs) (vs := vs) h0 r => by
    by_cases q : g = f
    · subst q
      have e1 : putO ((g, o0) :: fs) g o = (g, o) :: putO fs g o := by simp [putO]
      have e2 : (List.map (fun kv : Key × V => if kv.1 = Sum.inr g then (kv.1, v) else kv) ((Sum.inr g, v0) :: vs)) = (Sum.inr g, v) :: vs.map fun kv => if kv.1 = Sum.inr g then (kv.1, v) else kv := by simp
      rw [e1, e2]
      exact .cons h (FldR.map h r)
    · have e1 : putO ((g, o0) :: fs) f o = (g, o0) :: putO fs f o := by simp [putO, q]
      have e2 : (List.map (fun kv : Key × V => if kv.1 = Sum.inr f then (kv.1, v) else kv) ((Sum.inr g, v0) :: vs)) = (Sum.inr g, v0) :: vs.map fun kv => if kv.1 = Sum.inr f then (kv.1, v) else kv := by
        have : ¬ ((Sum.inr g : Key) = Sum.inr f) := fun z => q (Sum.inr.inj z)
        simp [this]
      rw [e1, e2]
      exact .cons h0 (FldR.map h r)
theorem FldR.put {c : Cf} {n : Nat} {f : Str} {o : O} {v : V} (h : Hd K c (.fld n f) o v) {fs : List (Str × O)} {vs : List (Key × V)} (r : FldR K c n fs vs) (e : (fs.lookup f).isSome = true) : FldR K c n (putO fs f o) (putK vs (Sum.inr f) v) := by
  unfold putK
  rw [if_pos (r.any e)]
  exact r.map h
/-- a shared dict is written -/
theorem StR.setD {c : Cf} {st : Store} {n : Nat} {a : Addr} {fs : List (Str × O)} {vs : List (Key × V)} (s : StR K c st) (ho : c.ow a = some (.obj n)) (ha : c.ρ[n]? = some a) (r : FldR K (c.wr a (.dK vs)) n fs vs) : StR K (c.wr a (.dK vs)) (st.set n ⟨none, fs⟩) := by
  have fz : Frz c (c.wr a (.dK vs)) := Cf.wr_frz ho
  refine ⟨by rw [List.length_set]; exact s.len, fun k ob h => ?_⟩
  by_cases e : k = n
  · subst e
    have hlt : k < st.length := by
      have := (List.getElem?_eq_some_iff.mp h).1
      rwa [List.length_set] at this
    rw [List.getElem?_set_self hlt] at h
    cases h
    exact ⟨a, ha, .dict rfl ho upd_same r⟩
  · rw [List.getElem?_set_ne (Ne.symm e)] at h
    obtain ⟨b, h1, h2⟩ := s.at_ k ob h
    refine ⟨b, h1, ?_⟩
    cases h2 with
    | dict e1 e2 e3 r' =>
      obtain ⟨g1, g2⟩ := Cf.wr_own (o := .dK vs) ho e2 (fun z => by cases z; exact e rfl)
      exact .dict e1 g1 (g2.trans e3) (r'.keep fz (fun _ _ z => z) fun b f z => Cf.wr_own ho z (fun z => by cases z))
end
section
variable {X : Cx} {m : Bool} {o e : Expr} {fo fe : Ef} {pos tpos kpos : Pos} {j : Nat} {f : Str}
theorem s_fadd (hu : X.A.units + 1 < cLine) (ho : EV true X o fo) (he : EV true X e fe)
    (ha : ∀ ov iv new, augStore (.Constant (.str f) j kpos) ov iv new = (do holding [new, ov, iv] (setItem ov iv new); release [new, ov, iv] []; pure .next) := by intros; rfl) :
    SV X (.AugAssign (.Subscript o (.Constant (.str f) j kpos) tpos) .Add e pos) (fadd_ f fo fe) := by
  refine ⟨(ps_daug hu ho.pe (pe_str (x := f) (j := j) (pos := kpos)) he.pe in_add ha).imp ?_⟩
  intro D σ H h'
  obtain ⟨ow, ρ, env, st, fl, st', S, e, hn, hr⟩ := tS_use h'
  obtain ⟨x, st1, e1, e2⟩ := R.bind_ok e
  obtain ⟨y, st2, e3, e4⟩ := R.bind_ok e2
  clear e e2
  refine ⟨ow, ρ, env, st, S, x, st1, e1, fun vx c1 x1 s1 w1 r1 => ?_⟩
  split at e4
  · rename_i n jj
    split at e4
    · rename_i ob hob
      split at e4
      rotate_left
      · cases e4
      rename_i i hc hf
      split at e4 <;> cases e4
      rename_i h1000
      cases r1 with
      | ref hρ =>
        rename_i a
        obtain ⟨a', g1, g2⟩ := s1.at_ _ _ hob
        rw [hρ] at g1
        cases g1
        cases g2 with
        | dict q1 q2 q3 q4 =>
          rename_i vs
          obtain ⟨v, g3, g4⟩ := q4.look hf
          obtain ⟨pk, _⟩ := g4
          cases pk with
          | w rv =>
            cases rv
            refine ⟨a, .int i, rfl, .inl ⟨vs, Sum.inr f, .inl q3, rfl, g3.symm⟩, ?_⟩
            have S1 : Sm X.K c1 env st1 σ := S.exs x1 s1 w1
            refine ⟨c1.ow, c1.ρ, env, st1, S1, _, _, e3, fun vy c2 x2 s2 w2 r2 => ?_⟩
            cases r2
            have es := x2.st_eq
            subst es
            obtain ⟨g5, g6⟩ := (x2.still rfl).2 a _ q3
            have hρ2 := x2.loc _ _ hρ
            have ho2 : c2.ow a = some (.obj n) := g5.trans q2
            have S2 : Sm X.K c2 env st2 σ := S1.exs x2 s2 w2
            have fz : Frz c2 (c2.wr a (.dK (putK vs (Sum.inr f) (.int (i + jj))))) := Cf.wr_frz ho2
            have r2 : FldR X.K c2 n ob.fs vs := by
              obtain ⟨a2, k1, k2⟩ := s2.at_ _ _ hob
              rw [hρ2] at k1
              cases k1
              cases k2 with
              | dict k3 k4 k5 k6 =>
                rw [g6] at k5
                cases k5
                exact k6
            have hl2 : vs.length < sizeLine := by
              rw [lim_eq, ← r2.length]; exact Nat.lt_trans h1000 (by decide)
            refine ⟨_, _, rfl, rfl, _, .inl ⟨vs, Sum.inr f, g6, rfl, hl2, rfl⟩, ?_⟩
            have r3 : FldR X.K (c2.wr a (.dK (putK vs (Sum.inr f) (.int (i + jj))))) n (putO ob.fs f (.w (.int (i + jj)))) (putK vs (Sum.inr f) (.int (i + jj))) := by
              refine FldR.put ⟨.w (.int _), trivial⟩ ?_ (by rw [hf]; rfl)
              exact r2.keep fz (fun _ _ z => z) fun b g z => Cf.wr_own ho2 z (fun z => by cases z)
            have S3 : EnvR X.K (c2.wr a (.dK (putK vs (Sum.inr f) (.int (i + jj))))) env σ := ⟨S2.e.len, fun k o h => by
              obtain ⟨v, h1, h2⟩ := S2.e.at_ k o h
              exact ⟨v, h1, h2.keep fz (fun _ _ z => z) fun b z => Cf.wr_own ho2 z (fun z => by cases z)⟩⟩
            refine hn env σ (c2.wr a (.dK (putK vs (Sum.inr f) (.int (i + jj))))) rfl ⟨S3, s2.setD ho2 hρ2 r3, Cf.wr_wf w2⟩ ((x1.s.trans x2.s).trans ⟨fz, fun b z => Cf.wr_own ho2 z (fun z => by cases z), fun _ _ z => z⟩)
    · cases e4
  · cases e4
end

/-! ### repr(a) == repr(b) -/
mutual
theorem noDict_of : ∀ d : PyData, d.canLay0 = true → d.hasDict = false
  | .none, _ => by simp [PyData.hasDict]
  | .bool _, _ => by simp [PyData.hasDict]
  | .int _, _ => by simp [PyData.hasDict]
  | .str _, _ => by simp [PyData.hasDict]
  | .list xs, h => by simp only [PyData.canLay0] at h; simp only [PyData.hasDict]; exact noDict_ofL xs h
  | .tuple xs, h => by simp only [PyData.canLay0] at h; simp only [PyData.hasDict]; exact noDict_ofL xs h
  | .dict _, h => by simp [PyData.canLay0] at h
theorem noDict_ofL : ∀ ds : List PyData, PyData.canLayAll0 ds = true → PyData.hasDictAll ds = false
  | [], _ => by simp [PyData.hasDictAll]
  | d :: ds, h => by
    simp only [PyData.canLayAll0, Bool.and_eq_true] at h
    simp [PyData.hasDictAll, noDict_of d h.1, noDict_ofL ds h.2]
end
def reprOk (d : PyData) : Bool := d.showable && decide (d.shown.length ≤ LIM)
def rRepr (K : PySem.W.Frag) : List V → Hp → VK → Prop := fun xs H Q => ∃ v d, xs = [v] ∧ Dp K H v d ∧ SeqAt.shaped d = true ∧ reprOk d = true ∧ Q (.str d.shown) H
theorem call_reprW {X : Cx} (hg : X.A.guards = some []) (hu : X.A.units + 65 < cLine) : CallR X (.builtin "repr") (rRepr X.K) := by
  intro pins s σ H xs us Q I r h
  obtain ⟨v, d, rfl, hd, sh, ok, q⟩ := h
  obtain ⟨u, rfl, rv⟩ := vals1 r
  unfold reprOk at ok
  rw [Bool.and_eq_true, decide_eq_true_eq] at ok
  obtain ⟨ok1, ok2⟩ := ok
  unfold SeqAt.shaped at sh
  rw [Bool.and_eq_true, decide_eq_true_eq] at sh
  cases hd with
  | non => cases rv; exact PySem.P.repr_of_none ⟨.str _, H, I.tok _, ⟨_, rfl⟩, by simpa only [PyData.shown] using q⟩
  | bl b => cases rv; exact PySem.P.repr_of_bool ⟨.str _, H, I.tok _, ⟨_, rfl⟩, by simpa only [PyData.shown] using q⟩
  | int i =>
    obtain ⟨t, rfl⟩ := rv
    exact PySem.P.repr_of_int (by simpa [PyData.showable] using ok1) ⟨.str _, H, I.tok _, ⟨_, rfl⟩, by simpa only [PyData.shown] using q⟩
  | str x =>
    obtain ⟨t, rfl⟩ := rv
    exact PySem.P.repr_of_str (hsz := by simpa only [PyData.shown, lim_eq] using ok2) ⟨.str _, H, I.tok _, ⟨_, rfl⟩, by simpa only [PyData.shown] using q⟩
  | lst h1 h2 =>
    cases rv
    obtain ⟨as, hr⟩ := Dp.reads I _ _ _ (Dp.lst h1 h2) rfl
    exact repr_of_reads' hr ok1 (PyData.noDict_hsm (noDict_of _ sh.1)) hg (by omega) (fun _ _ e => e) (fun h' u tk hk => ⟨.str _, H, I.kept hk, ⟨_, rfl⟩, q⟩) (by rw [lim_eq]; exact ok2)
  | tup h1 h2 =>
    cases rv
    obtain ⟨as, hr⟩ := Dp.reads I _ _ _ (Dp.tup h1 h2) rfl
    exact repr_of_reads' hr ok1 (PyData.noDict_hsm (noDict_of _ sh.1)) hg (by omega) (fun _ _ e => e) (fun h' u tk hk => ⟨.str _, H, I.kept hk, ⟨_, rfl⟩, q⟩) (by rw [lim_eq]; exact ok2)
/-- repr(a) == repr(b) -/
def reqW (x y : W) (st : Store) : R W := if x.fit 60 && y.fit 60 && reprOk x.py && reprOk y.py then .ok (.bl (decide (x.py.shown = y.py.shown))) st else .no
section
variable {X : Cx} {m : Bool} {a b : Expr} {fa fb : Ef} {pos p p2 q q2 : Pos}
theorem scal_str {x y : Str} : scal (.str x) (.str y) = true := by rfl
theorem e_reprEq (hgd : X.A.guards = some []) (hu : X.A.units + 65 < cLine) (gl : Gl X "repr") (hm : X.mg "repr" = none) (ha : OV m m X a fa) (hb : OV m true X b fb)
    (hs1 : starEach [a] X.env = (false, eval a X.env) :: starEach [] X.env := by rfl) (hs2 : starEach [b] X.env = (false, eval b X.env) :: starEach [] X.env := by rfl) (hk : behindInMarks .Eq (.Call (.Name "repr" q) [b] [] q2) = false := by rfl) :
    EV m X (.Compare (.Call (.Name "repr" p) [a] [] p2) [.Eq] [.Call (.Name "repr" q) [b] [] q2] pos) (bin reqW fa fb) := by
  have boot : bootBuiltins "repr" = some (.builtin "repr") := by decide +kernel
  refine ⟨(pe_cmpR op_eq (pe_callB (call_reprW hgd hu) gl hm boot (pa_cons ha.pe pa_nil hs1) (by decide) (by decide) hs1) (pe_callB (call_reprW hgd hu) gl hm boot (pa_cons hb.pe pa_nil hs2) (by decide) (by decide) hs2) hk).imp ?_⟩
  rintro σ H Q ⟨ow, ρ, env, st, S, w, st', e, q⟩
  obtain ⟨x, st1, e1, e2⟩ := R.bind_ok e
  obtain ⟨y, st2, e3, e4⟩ := R.bind_ok e2
  unfold reqW at e4
  split at e4 <;> cases e4
  rename_i hh
  simp only [Bool.and_eq_true] at hh
  obtain ⟨⟨⟨f1, f2⟩, k1⟩, k2⟩ := hh
  refine ⟨ow, ρ, env, st, S, x, st1, e1, fun vx c1 x1 s1 w1 r1 kp => ?_⟩
  obtain ⟨d1, sh1⟩ := r1.dp f1
  refine ⟨vx, _, rfl, d1, sh1, k1, ?_⟩
  refine ⟨c1.ow, c1.ρ, env, st1, S.ext x1 s1 w1, y, _, e3, fun vy c2 x2 s2 w2 r2 _ => ?_⟩
  obtain ⟨d2, sh2⟩ := r2.dp f2
  refine ⟨vy, _, rfl, d2, sh2, k2, scal_str, ?_⟩
  have e5 : decide (V.str x.py.shown = V.str y.py.shown) = decide (x.py.shown = y.py.shown) := by simp
  rw [e5]
  exact q _ c2 (x1.trans x2) s2 w2 (.bl _)

/-! ### ranges as tuples, as lists -/
def trg1_ (fa : Ef) : Ef := fun env st => (fa env st).bind fun x st1 => match x with
  | .int n => if rgOk 0 n then .ok (.tup (rgW 0 n.toNat)) st1 else .no
  | _ => .no
def trg2_ (fa fb : Ef) : Ef := fun env st => (fa env st).bind fun x st1 => (fb env st1).bind fun y st2 => match x, y with
  | .int a, .int b => if rgOk a b then .ok (.tup (rgW a (b - a).toNat)) st2 else .no
  | _, _ => .no
theorem rgOk_iff {a b : Int} (h : rgOk a b = true) : RgOk a b := by
  unfold rgOk at h
  simp only [decide_eq_true_eq] at h
  exact ⟨h.1, h.2.1, h.2.2.1, h.2.2.2.1, by have := h.2.2.2.2; exact this⟩
theorem rep_rg {K : PySem.W.Frag} {H : Hp} {ρ : List Addr} {a b : Int} : RepL K H ρ (rgW a (b - a).toNat) (rgV a b) := by
  have e1 : rgW a (b - a).toNat = ((List.range (b - a).toNat).map fun i : Nat => a + (i : Int)).map W.int := by unfold rgW; rw [List.map_map]; rfl
  have e2 : rgV a b = ((List.range (b - a).toNat).map fun i : Nat => a + (i : Int)).map V.int := by unfold rgV; rw [List.map_map]; rfl
  rw [e1, e2]
  exact repL_ints _
theorem e_tupRg2 {pp : Pos} (hc : X.calm = true) (gt : Gl X "tuple") (hmt : X.mg "tuple" = none) (gr : Gl X "range") (hmr : X.mg "range" = none) (ha : EV m X a fa) (hb : EV m X b fb)
    (na : starEach [a, b] X.env = (false, eval a X.env) :: starEach [b] X.env := by rfl)
    (nb : starEach [b] X.env = (false, eval b X.env) :: starEach [] X.env := by rfl) (hp : (backTo p (starEach [b] X.env)).any (·.1) = false := by rfl)
    (nr : starEach [(.Call (.Name "range" pp) [a, b] [] p)] X.env = (false, eval (.Call (.Name "range" pp) [a, b] [] p) X.env) :: starEach [] X.env := by rfl) :
    EV m X (.Call (.Name "tuple" q) [.Call (.Name "range" pp) [a, b] [] p] [] pos) (trg2_ fa fb) := by
  refine ⟨(pe_tupRg hc gt hmt (prg_2 gr hmr ha.pe hb.pe na nb hp) nr).imp ?_⟩
  rintro σ H Q ⟨ow, ρ, env, st, S, w, st', e, q⟩
  obtain ⟨x, st1, e1, e2⟩ := R.bind_ok e
  obtain ⟨y, st2, e3, e4⟩ := R.bind_ok e2
  refine ⟨ow, ρ, env, st, S, x, st1, e1, fun vx c1 x1 s1 w1 r1 => ?_⟩
  refine ⟨c1.ow, c1.ρ, env, st1, S.ext x1 s1 w1, y, st2, e3, fun vy c2 x2 s2 w2 r2 => ?_⟩
  split at e4
  · split at e4 <;> cases e4
    rename_i hr
    cases r1; cases r2
    refine ⟨_, _, rfl, rfl, rgOk_iff hr, fun p hp => ?_⟩
    obtain ⟨x4, s4, w4, f4⟩ := alloc X.K st' (.tup (rgV _ _)) w2 hp
    refine q _ _ ((x1.trans x2).trans x4.any) (s4 s2) w4 (.tup (.inl (.inl f4)) rep_rg ?_)
    rw [rgW_length]
    exact (rgOk_iff hr).2.2.2.2
  · cases e4
theorem e_tupRg1 {pp : Pos} (hc : X.calm = true) (gt : Gl X "tuple") (hmt : X.mg "tuple" = none) (gr : Gl X "range") (hmr : X.mg "range" = none) (ha : EV m X a fa)
    (na : starEach [a] X.env = (false, eval a X.env) :: starEach [] X.env := by rfl)
    (nr : starEach [(.Call (.Name "range" pp) [a] [] p)] X.env = (false, eval (.Call (.Name "range" pp) [a] [] p) X.env) :: starEach [] X.env := by rfl) :
    EV m X (.Call (.Name "tuple" q) [.Call (.Name "range" pp) [a] [] p] [] pos) (trg1_ fa) := by
  refine ⟨(pe_tupRg hc gt hmt (prg_1 gr hmr ha.pe na) nr).imp ?_⟩
  rintro σ H Q ⟨ow, ρ, env, st, S, w, st', e, q⟩
  obtain ⟨x, st1, e1, e2⟩ := R.bind_ok e
  refine ⟨ow, ρ, env, st, S, x, st1, e1, fun vx c1 x1 s1 w1 r1 => ?_⟩
  split at e2
  · split at e2 <;> cases e2
    rename_i n hr
    cases r1
    have e0 : (n - 0).toNat = n.toNat := by rw [Int.sub_zero]
    refine ⟨_, rfl, rgOk_iff hr, fun p hp => ?_⟩
    obtain ⟨x4, s4, w4, f4⟩ := alloc X.K st' (.tup (rgV 0 n)) w1 hp
    refine q _ _ (x1.trans x4.any) (s4 s1) w4 (.tup (.inl (.inl f4)) (by rw [← e0]; exact rep_rg) ?_)
    rw [rgW_length, ← e0]
    exact (rgOk_iff hr).2.2.2.2
  · cases e2

/-! ### d.get(k, x) -/
def get_ (fo fk fx : Ef) : Ef := fun env st => (fo env st).bind fun d st1 => (fk env st1).bind fun k st2 => (fx env st2).bind fun x st3 => match d, k.key with
  | .dct kvs, some k => .ok ((getW kvs k).getD x) st3
  | _, _ => .no
theorem e_get {o : Expr} {fo fk fx : Ef} (hu : X.A.units + 1 < cLine) (ho : OV m m X o fo) (hk : EV m X a fk) (hx : EV m X b fx) (M : M2 X o "get" p a b q) :
    EV m X (.Call (.Attribute o "get" p) [a, b] [] q) (get_ fo fk fx) := by
  refine ⟨(pe_dget2 hu ho.pe hk.pe hx.pe M).imp ?_⟩
  rintro σ H Q ⟨ow, ρ, env, st, S, w, st', e, q⟩
  obtain ⟨d, st1, e1, e2⟩ := R.bind_ok e
  obtain ⟨k, st2, e3, e4⟩ := R.bind_ok e2
  obtain ⟨x, st3, e5, e6⟩ := R.bind_ok e4
  clear e e2 e4
  split at e6
  · cases e6
    rename_i kvs k' hk'
    refine ⟨ow, ρ, env, st, S, _, st1, e1, fun vd c1 x1 s1 w1 r1 kp => ?_⟩
    obtain ⟨a0, vs, rfl, h1, r, z⟩ := r1.asD
    refine ⟨a0, rfl, .inl ⟨vs, h1⟩, c1.ow, c1.ρ, env, st1, S.ext x1 s1 w1, k, st2, e3, fun vk c2 x2 s2 w2 r2 => ?_⟩
    refine ⟨c2.ow, c2.ρ, env, st2, (S.ext x1 s1 w1).ext x2 s2 w2, x, _, e5, fun vx c3 x3 s3 w3 r3 => ?_⟩
    obtain ⟨a1, us, ea, h2, r', _⟩ := (kp _ _ (x2.trans x3)).asD
    cases ea
    have ek : vk = kV k' := View.key (.of r2) hk'
    have X3 := (x1.trans x2).trans x3
    cases hg : getW kvs k' with
    | none =>
      rw [hg] at q
      refine ⟨none, .inl ⟨us, k', h2, ek, ?_⟩, q _ c3 X3 s3 w3 r3⟩
      have := r'.isSome k'
      rw [hg] at this
      cases hv : valV us k' with
      | none => rfl
      | some v => rw [hv] at this; cases this
    | some y =>
      rw [hg] at q
      obtain ⟨v, g1, g2⟩ := (r'.get k').1 _ hg
      exact ⟨some v, .inl ⟨us, k', h2, ek, g1.symm⟩, q _ c3 X3 s3 w3 g2⟩
  · cases e6
end
end Cr
/-! Cr14: what a printed walk leans on. -/
namespace Cr
open PySem PySem.Spec PyProof.Rows L2

theorem hu1 {k : Nat} {A : Around} (r : Room k A) : A.units + 1 < cLine := by have := r.un; omega
theorem hu64 {k : Nat} {A : Around} (r : Room k A) : A.units + 64 < cLine := by have := r.un; omega
theorem hu65 {k : Nat} {A : Around} (r : Room k A) : A.units + 65 < cLine := by have := r.un; omega
theorem bt_abs : bootBuiltins "abs" = some (.builtin "abs") := by decide +kernel
theorem bt_sum : bootBuiltins "sum" = some (.builtin "sum") := by decide +kernel
theorem bt_max : bootBuiltins "max" = some (.builtin "max") := by decide +kernel
theorem bt_min : bootBuiltins "min" = some (.builtin "min") := by decide +kernel
theorem bt_all : bootBuiltins "all" = some (.builtin "all") := by decide +kernel
theorem bt_any : bootBuiltins "any" = some (.builtin "any") := by decide +kernel
theorem bt_sorted : bootBuiltins "sorted" = some (.builtin "sorted") := by decide +kernel
theorem bt_int : bootBuiltins "int" = some (.type "int") := by decide +kernel
theorem bt_tuple : bootBuiltins "tuple" = some (.type "tuple") := by decide +kernel
theorem bt_list : bootBuiltins "list" = some (.type "list") := by decide +kernel
theorem bt_len : bootBuiltins "len" = some (.builtin "len") := by decide +kernel
/-- a def of the text, as its callers know it -/
structure Callee (P : Program) (w : World) (K : PySem.W.Frag) (mg : Str → Option Value) (base : Heap) (x : Str) (k n : Nat) (f : Df) : Prop where
  ex : ∃ (fA : Addr) (fd : FuncData) (ps : List Str), FnG P w K mg base CX0 k fA fd ps (spF K n f) ∧ mg x = some (.ref fA) ∧ PySem.W.keepIn K (.ref fA) = true ∧ Binds K fd ps []
theorem callee_mk {P : Program} {w : World} {K : PySem.W.Frag} {mg : Str → Option Value} {base : Heap} {x : Str} {k n : Nat} {f : Df} {fA : Addr} {fd : FuncData} {ps : List Str} (h1 : FnG P w K mg base CX0 k fA fd ps (spF K n f)) (h2 : mg x = some (.ref fA)) (h3 : PySem.W.keepIn K (.ref fA) = true) (h4 : Binds K fd ps []) : Callee P w K mg base x k n f := ⟨_, _, _, h1, h2, h3, h4⟩
section
variable {X : Cx} {m : Bool} {k j n : Nat} {x : Str} {p pos : Pos} {e : Expr} {es : List Expr} {fa : Af} {f : Df}
theorem e_callee (C : Callee X.prog X.w X.K X.mg X.base x k n f) (hr : Room j X.A) (hgd : X.A.guards = some []) (hg : Gl X x) (ha : AV m X (e :: es) fa) (hn : ∀ env st ws st', fa env st = .ok ws st' → ws.length = n) (hk : k ≤ j := by decide)
    (hdb : (x == ("__debug__" : Str)) = false := by decide) (he : starEach (e :: es) X.env = (false, eval e X.env) :: starEach es X.env := by rfl) (hpl : (backTo pos (starEach es X.env)).any (·.1) = false := by rfl) :
    EV false X (.Call (.Name x p) (e :: es) [] pos) (call_ f fa) := by
  obtain ⟨fA, fd, ps, h1, h2, h3, h4⟩ := C.ex
  exact e_call h1 (hr.mono hk) hgd hg h2 h3 h4 ha hn hdb he hpl
end
end Cr
/-! Pl1: plain laws of loops. -/
namespace Cr
open PySem

theorem seq_ok {f g : Sf} {env env1 : Env} {st st1 : Store} {r : R Fl} (h : f env st = .ok (.nx env1) st1) (h2 : g env1 st1 = r) : seq_ f g env st = r := by
  unfold seq_
  rw [h]
  exact h2
theorem seq_rt {f g : Sf} {env : Env} {st st1 : Store} {w : W} (h : f env st = .ok (.rt w) st1) : seq_ f g env st = .ok (.rt w) st1 := by
  unfold seq_
  rw [h]
  rfl
theorem for_ok {fi : If} {b : Bf} {f : Sf} {env : Env} {st st1 : Store} {ws : List W} {r : R Fl} (h : fi env st = .ok ws st1) (h2 : forL b f ws env st1 = r) : for_ fi b f env st = r := by
  unfold for_
  rw [h]
  exact h2
theorem if_t {t : Tf} {f g : Sf} {env : Env} {st st1 : Store} {r : R Fl} (h : t env st = .ok true st1) (h2 : f env st1 = r) : if_ t f g env st = r := by
  unfold if_
  rw [h]
  exact h2
theorem if_f {t : Tf} {f g : Sf} {env : Env} {st st1 : Store} {r : R Fl} (h : t env st = .ok false st1) (h2 : g env st1 = r) : if_ t f g env st = r := by
  unfold if_
  rw [h]
  exact h2
theorem asg_ok {i : Nat} {f : Ef} {env : Env} {st st1 : Store} {w : W} (h : f env st = .ok w st1) : asg_ i f env st = .ok (.nx (env.set i (some (.w w)))) st1 := by
  unfold asg_
  rw [h]
  rfl
theorem ret_ok {f : Ef} {env : Env} {st st1 : Store} {w : W} (h : f env st = .ok w st1) : ret_ f env st = .ok (.rt w) st1 := by
  unfold ret_
  rw [h]
  rfl
theorem run_rt {n : Nat} {body : Sf} {ws : List W} {st st1 : Store} {w : W} (h : body (ws.map (fun w => some (.w w)) ++ List.replicate (n - ws.length) none) st = .ok (.rt w) st1) : run_ n body ws st = .ok w st1 := by
  unfold run_
  rw [h]
  rfl
theorem call_ok {f : Df} {fa : Af} {env : Env} {st st1 st2 : Store} {ws : List W} {w : W} (h : fa env st = .ok ws st1) (h2 : f ws st1 = .ok w st2) : call_ f fa env st = .ok w st2 := by
  unfold call_
  rw [h]
  exact h2
theorem bin_ok {g : W → W → Store → R W} {fa fb : Ef} {env : Env} {st st1 st2 : Store} {x y : W} {r : R W} (h : fa env st = .ok x st1) (h2 : fb env st1 = .ok y st2) (h3 : g x y st2 = r) : bin g fa fb env st = r := by
  unfold bin
  rw [h]
  show (fb env st1).bind _ = _
  rw [h2]
  exact h3
theorem un_ok {g : W → Store → R W} {fa : Ef} {env : Env} {st st1 : Store} {x : W} {r : R W} (h : fa env st = .ok x st1) (h3 : g x st1 = r) : un g fa env st = r := by
  unfold un
  rw [h]
  exact h3
theorem cons_ok {f : Ef} {r : Af} {env : Env} {st st1 st2 : Store} {x : W} {xs : List W} (h : f env st = .ok x st1) (h2 : r env st1 = .ok xs st2) : cons_ f r env st = .ok (x :: xs) st2 := by
  unfold cons_
  rw [h]
  show (r env st1).bind _ = _
  rw [h2]
  rfl
theorem tup_ok {f : Af} {env : Env} {st st1 : Store} {xs : List W} (h : f env st = .ok xs st1) (hl : xs.length ≤ LIM) : tup_ f env st = .ok (.tup xs) st1 := by
  unfold tup_
  rw [h]
  exact if_pos hl
theorem lst_ok {f : Af} {env : Env} {st st1 : Store} {xs : List W} (h : f env st = .ok xs st1) (hl : xs.length ≤ LIM) : lst_ f env st = .ok (.lst xs) st1 := by
  unfold lst_
  rw [h]
  exact if_pos hl
theorem tst_ok {f : Ef} {env : Env} {st st1 : Store} {b : Bool} (h : f env st = .ok (.bl b) st1) : tst_ f env st = .ok b st1 := by
  unfold tst_
  rw [h]
  rfl
theorem frzL_ok {f : Nf} {env : Env} {st st1 : Store} {xs : List W} (h : f env st = .ok (.ol xs) st1) : frzL_ f env st = .ok (.lst xs) st1 := by
  unfold frzL_
  rw [h]
  rfl
theorem comp_ok {fi : If} {vs : List Nat} {b : Bf} {ft : Tf} {fe : Ef} {env : Env} {st st1 st2 : Store} {ws ys : List W} (h : fi env st = .ok ws st1) (h2 : compL vs b ft fe env ws st1 = .ok ys st2) : comp_ fi vs b ft fe env st = .ok (.ol ys) st2 := by
  unfold comp_
  rw [h]
  show (compL vs b ft fe env ws st1).bind _ = _
  rw [h2]
  rfl
theorem not_ok {t : Tf} {env : Env} {st st1 : Store} {b : Bool} (h : t env st = .ok b st1) : not_ t env st = .ok (!b) st1 := by
  unfold not_
  rw [h]
  rfl
theorem rng1_ok {fa : Af} {env : Env} {st st1 : Store} {n : Int} (h : fa env st = .ok [.int n] st1) (hz : rgOk 0 n = true) : rng1_ fa env st = .ok (rgW 0 n.toNat) st1 := by
  unfold rng1_
  rw [h]
  exact if_pos hz
theorem rng2_ok {fa : Af} {env : Env} {st st1 : Store} {a b : Int} (h : fa env st = .ok [.int a, .int b] st1) (hz : rgOk a b = true) : rng2_ fa env st = .ok (rgW a (b - a).toNat) st1 := by
  unfold rng2_
  rw [h]
  exact if_pos hz
theorem forL_cons_ok {b : Bf} {f : Sf} {w : W} {ws : List W} {env env1 env2 : Env} {st st1 : Store} {r : R Fl} (hb : b w env = some env1) (hf : f env1 st = .ok (.nx env2) st1) (h : forL b f ws env2 st1 = r) : forL b f (w :: ws) env st = r := by
  unfold forL
  simp only [hb, hf, R.ok_bind]
  exact h
theorem forL_cons_rt {b : Bf} {f : Sf} {w v : W} {ws : List W} {env env1 : Env} {st st1 : Store} (hb : b w env = some env1) (hf : f env1 st = .ok (.rt v) st1) : forL b f (w :: ws) env st = .ok (.rt v) st1 := by
  unfold forL
  simp only [hb, hf, R.ok_bind]
theorem forL_inv {b : Bf} {f : Sf} (I : Nat → Env → Store → Prop) : ∀ (ws : List W) (i0 : Nat) (env : Env) (st : Store), I i0 env st →
    (∀ i w, ws[i]? = some w → ∀ env st, I (i0 + i) env st → ∃ env1 env2 st2, b w env = some env1 ∧ f env1 st = .ok (.nx env2) st2 ∧ I (i0 + i + 1) env2 st2) → ∃ env' st', forL b f ws env st = .ok (.nx env') st' ∧ I (i0 + ws.length) env' st'
  | [], i0, env, st, h0, _ => ⟨env, st, rfl, h0⟩
  | w :: ws, i0, env, st, h0, hs => by
    obtain ⟨env1, env2, st2, e1, e2, h1⟩ := hs 0 w rfl env st h0
    obtain ⟨env', st', e3, h3⟩ := forL_inv I ws (i0 + 1) env2 st2 h1 fun i w' hw env st h => by
      have := hs (i + 1) w' (by simpa using hw) env st (by rwa [show i0 + (i + 1) = i0 + 1 + i by omega])
      rwa [show i0 + (i + 1) + 1 = i0 + 1 + i + 1 by omega] at this
    refine ⟨env', st', ?_, by rw [List.length_cons, show i0 + (ws.length + 1) = i0 + 1 + ws.length by omega]; exact h3⟩
    unfold forL
    simp only [e1, e2, R.ok_bind]
    exact e3
theorem forL_all {b : Bf} {f : Sf} (I : Nat → Env → Store → Prop) (ws : List W) (env : Env) (st : Store) (h0 : I 0 env st)
    (hs : ∀ i w, ws[i]? = some w → ∀ env st, I i env st → ∃ env1 env2 st2, b w env = some env1 ∧ f env1 st = .ok (.nx env2) st2 ∧ I (i + 1) env2 st2) : ∃ env' st', forL b f ws env st = .ok (.nx env') st' ∧ I ws.length env' st' := by
  obtain ⟨env', st', h1, h2⟩ := forL_inv I ws 0 env st h0 fun i w hw env st h => by
    rw [Nat.zero_add] at h ⊢
    exact hs i w hw env st h
  exact ⟨env', st', h1, by rwa [Nat.zero_add] at h2⟩
/-- a comprehension whose parts are plain -/
theorem compL_eq {vs : List Nat} {b : Bf} {ft : Tf} {fe : Ef} {env : Env} {st : Store} (p : W → Bool) (g : W → W) : ∀ (ws : List W), (∀ w ∈ ws, ∃ env1, b w (wipeE env vs) = some env1 ∧ ft env1 st = .ok (p w) st ∧ (p w = true → fe env1 st = .ok (g w) st)) →
    compL vs b ft fe env ws st = .ok ((ws.filter p).map g) st
  | [], _ => rfl
  | w :: ws, h => by
    obtain ⟨env1, e1, e2, e3⟩ := h w List.mem_cons_self
    have r := compL_eq p g ws fun w' hw => h w' (List.mem_cons_of_mem _ hw)
    unfold compL
    cases hp : p w with
    | true => simp [e1, e2, hp, e3 hp, r]
    | false => simp [e1, e2, hp, r]
/-- a comprehension that draws: what is kept is the thing itself -/
theorem compL_sub {vs : List Nat} {b : Bf} {ft : Tf} {fe : Ef} {env : Env} (I : Store → Prop) : ∀ (ws : List W) (st : Store), I st → (∀ w ∈ ws, ∀ st, I st → ∃ env1 k st1, b w (wipeE env vs) = some env1 ∧ ft env1 st = .ok k st1 ∧ I st1 ∧ fe env1 st1 = .ok w st1) →
    ∃ ys st', compL vs b ft fe env ws st = .ok ys st' ∧ I st' ∧ ys.Sublist ws
  | [], st, h, _ => ⟨[], st, rfl, h, .slnil⟩
  | w :: ws, st, h, hs => by
    obtain ⟨env1, k, st1, e1, e2, h1, e4⟩ := hs w List.mem_cons_self st h
    obtain ⟨ys, st', e3, h3, h4⟩ := compL_sub I ws st1 h1 fun w' hw => hs w' (List.mem_cons_of_mem _ hw)
    cases k with
    | false =>
      refine ⟨ys, st', ?_, h3, h4.cons _⟩
      unfold compL
      simp [e1, e2, e3]
    | true =>
      refine ⟨w :: ys, st', ?_, h3, h4.cons₂ _⟩
      unfold compL
      simp [e1, e2, e3, e4]
/-- all are kept; each result is as P says -/
theorem compL_full {vs : List Nat} {b : Bf} {fe : Ef} {env : Env} (I : Store → Prop) (P : W → Prop) : ∀ (ws : List W) (st : Store), I st → (∀ w ∈ ws, ∀ st, I st → ∃ env1, b w (wipeE env vs) = some env1 ∧
    ∃ y st2, fe env1 st = .ok y st2 ∧ I st2 ∧ P y) → ∃ ys st', compL vs b yes_ fe env ws st = .ok ys st' ∧ I st' ∧ ys.length = ws.length ∧ ∀ y ∈ ys, P y
  | [], st, h, _ => ⟨[], st, rfl, h, rfl, (fun _ h => nomatch h)⟩
  | w :: ws, st, h, hs => by
    obtain ⟨env1, e1, y, st2, e4, h6, h7⟩ := hs w List.mem_cons_self st h
    obtain ⟨ys, st', e3, h3, hl, h5⟩ := compL_full I P ws st2 h6 fun w' hw => hs w' (List.mem_cons_of_mem _ hw)
    refine ⟨y :: ys, st', ?_, h3, by rw [List.length_cons, List.length_cons, hl], fun z hz => ?_⟩
    · unfold compL
      simp [e1, e3, e4, yes_]
    · rcases List.mem_cons.mp hz with rfl | hz
      · exact h7
      · exact h5 z hz

/-! ### values -/
theorem int_fit (n : Nat) (i : Int) : W.fit n (.int i) = true := by cases n <;> rfl
theorem ints_fit (n : Nat) (ns : List Int) : (ns.map W.int).all (W.fit n) = true := by
  rw [List.all_eq_true]
  intro w hw
  obtain ⟨i, _, rfl⟩ := List.mem_map.mp hw
  exact int_fit n i
mutual
theorem eqv_refl : ∀ (n : Nat) (w : W), w.fit n = true → PyData.eqv w.py w.py = true
  | _, .non, _ => by simp [W.py, PyData.eqv]
  | _, .bl b, _ => by simp [W.py, PyData.eqv]
  | _, .int i, _ => by simp [W.py, PyData.eqv]
  | _, .str x, _ => by simp [W.py, PyData.eqv]
  | n + 1, .tup xs, h => by simp only [W.fit] at h; simp [W.py, PyData.eqv, eqv_reflL n xs h]
  | n + 1, .lst xs, h => by simp only [W.fit] at h; simp [W.py, PyData.eqv, eqv_reflL n xs h]
  | 0, .tup xs, h => by simp [W.fit] at h
  | 0, .lst xs, h => by simp [W.fit] at h
  | n, .dct _, h => by cases n <;> simp [W.fit] at h
  | n, .dtt _, h => by cases n <;> simp [W.fit] at h
  | n, .ref _, h => by cases n <;> simp [W.fit] at h
  | n, .scr _, h => by cases n <;> simp [W.fit] at h
theorem eqv_reflL : ∀ (n : Nat) (ws : List W), ws.all (W.fit n) = true → PyData.eqvAll (W.pyL ws) (W.pyL ws) = true
  | _, [], _ => by simp [W.pyL, PyData.eqvAll]
  | n, w :: ws, h => by
    rw [List.all_cons, Bool.and_eq_true] at h
    simp [W.pyL, PyData.eqvAll, eqv_refl n w h.1, eqv_reflL n ws h.2]
end
/-! ### what repr can show: ints below 10 ^ 12, texts of any signs, at most so many -/
mutual
def W.sm : W → Bool
  | .non => true
  | .bl _ => true
  | .int i => decide (i.natAbs < 10 ^ 12)
  | .str x => x.cps.toList.all fun c => decide (c < 16 ^ 8)
  | .tup xs => W.smL xs
  | .lst xs => W.smL xs
  | _ => false
def W.smL : List W → Bool
  | [] => true
  | x :: xs => W.sm x && W.smL xs
end
mutual
def W.wt : W → Nat
  | .int _ => 64
  | .str x => x.length
  | .tup xs => W.wtL xs
  | .lst xs => W.wtL xs
  | _ => 0
def W.wtL : List W → Nat
  | [] => 0
  | x :: xs => W.wt x + 1 + W.wtL xs
end
theorem log_lt {i : Int} (h : i.natAbs < 10 ^ 12) : i.natAbs.log2 < 64 := by
  by_cases e : i.natAbs = 0
  · rw [e]; decide
  · exact (Nat.log2_lt e).mpr (Nat.lt_trans h (by decide))
mutual
theorem sm_ok : ∀ w : W, w.sm = true → w.py.showable = true ∧ w.py.leavesShort 13 = true ∧ w.py.weight ≤ w.wt
  | .non, _ => by simp [W.py, PyData.showable, PyData.leavesShort, PyData.weight]
  | .bl _, _ => by simp [W.py, PyData.showable, PyData.leavesShort, PyData.weight]
  | .int i, h => by
    simp only [W.sm, decide_eq_true_eq] at h
    have h1 := log_lt h
    refine ⟨?_, ?_, ?_⟩
    · simp only [W.py, PyData.showable, decide_eq_true_eq]; omega
    · simp only [W.py, PyData.leavesShort, decide_eq_true_eq]; exact PyData.shown_int_le h
    · simp only [W.py, PyData.weight, W.wt]; split <;> omega
  | .str x, h => by
    simp only [W.sm] at h
    refine ⟨by simp [W.py, PyData.showable], ?_, ?_⟩
    · simp only [W.py, PyData.leavesShort]; exact h
    · simp only [W.py, PyData.weight, W.wt]; exact Nat.le_refl _
  | .tup xs, h => by
    simp only [W.sm] at h
    obtain ⟨a, b, c⟩ := sm_okL xs h
    simp only [W.py, PyData.showable, PyData.leavesShort, PyData.weight, W.wt]
    exact ⟨a, b, c⟩
  | .lst xs, h => by
    simp only [W.sm] at h
    obtain ⟨a, b, c⟩ := sm_okL xs h
    simp only [W.py, PyData.showable, PyData.leavesShort, PyData.weight, W.wt]
    exact ⟨a, b, c⟩
  | .dct _, h => by simp [W.sm] at h
  | .dtt _, h => by simp [W.sm] at h
  | .ref _, h => by simp [W.sm] at h
  | .scr _, h => by simp [W.sm] at h
theorem sm_okL : ∀ ws : List W, W.smL ws = true → PyData.showableAll (W.pyL ws) = true ∧ PyData.leavesShortAll 13 (W.pyL ws) = true ∧ PyData.weightAll (W.pyL ws) ≤ W.wtL ws
  | [], _ => by simp [W.pyL, PyData.showableAll, PyData.leavesShortAll, PyData.weightAll]
  | w :: ws, h => by
    simp only [W.smL, Bool.and_eq_true] at h
    obtain ⟨a, b, c⟩ := sm_ok w h.1
    obtain ⟨a', b', c'⟩ := sm_okL ws h.2
    simp only [W.pyL, PyData.showableAll, PyData.leavesShortAll, PyData.weightAll, W.wtL, a, b, a', b', Bool.and_self, true_and]
    omega
end
theorem reprOk_of {w : W} (h : w.sm = true) (hw : w.wt ≤ 2 ^ 20) : reprOk w.py = true := by
  obtain ⟨a, b, c⟩ := sm_ok w h
  have := PyData.shown_fits (B := 13) (by decide) (by decide) b (Nat.le_trans c hw)
  rw [lim_eq] at this
  unfold reprOk
  rw [a, Bool.true_and, decide_eq_true_eq]
  exact this
theorem ints_sm : ∀ ns : List Int, (∀ n ∈ ns, n.natAbs < 10 ^ 12) → W.smL (ns.map .int) = true
  | [], _ => rfl
  | n :: ns, h => by
    simp only [List.map_cons, W.smL, W.sm, Bool.and_eq_true, decide_eq_true_eq]
    exact ⟨h n List.mem_cons_self, ints_sm ns fun m hm => h m (List.mem_cons_of_mem _ hm)⟩
theorem ints_wt : ∀ ns : List Int, W.wtL (ns.map .int) = 65 * ns.length
  | [] => rfl
  | n :: ns => by
    simp only [List.map_cons, W.wtL, W.wt, ints_wt ns, List.length_cons]
    omega
/-- what _law_same asks of a value -/
def Fine (w : W) : Prop := w.fit 60 = true ∧ w.sm = true ∧ w.wt ≤ 2 ^ 20
theorem fine_int {i : Int} (h : i.natAbs < 10 ^ 12) : Fine (.int i) := ⟨rfl, by simpa [W.sm] using h, by simp [W.wt]⟩
theorem fine_tup {ns : List Int} (h : ∀ n ∈ ns, n.natAbs < 10 ^ 12) (hl : ns.length ≤ 10000) : Fine (.tup (ns.map .int)) := by
  refine ⟨by simp only [W.fit]; exact ints_fit _ ns, by simp only [W.sm]; exact ints_sm ns h, ?_⟩
  simp only [W.wt, ints_wt]
  omega

/-! ### the drawn script -/
def stW (ds : List Int) (k : Int) : Store := [⟨none, [("draws", .w (.lst (ds.map .int))), ("at", .w (.int k))]⟩]
def WS (st : Store) : Prop := ∃ ds k, st = stW ds k ∧ 0 ≤ k
end Cr
/-! Pl2: the drawn script. -/
namespace Cr
open PySem
/-- _law_draws: slots 0 script, 1 many, 2 draws, 3 mixed, 4 k, 5 cell, 6 rest, 7 turn -/
noncomputable def d_turn : Sf := if_ (tst_ (bin gtW (var_ 6) (cst_ (.int 0)))) (seq_ (app_ 2 (bin modW (un intW (var_ 6)) (cst_ (.int 997)))) (asg_ 6 (bin divW (var_ 6) (cst_ (.int 997))))) skip_
noncomputable def d_cell : Sf := if_ (tst_ (bin geW (var_ 5) (bin powW (cst_ (.int 10)) (cst_ (.int 18))))) (asg_ 6 (var_ 5)) (seq_ (app_ 2 (bin modW (un intW (var_ 5)) (cst_ (.int 997)))) (app_ 2 (bin modW (bin modW (un intW (bin addW (bin mulW (var_ 3) (cst_ (.int 69621))) (cst_ (.int 5)))) (cst_ (.int 65521))) (cst_ (.int 997)))))
noncomputable def d_one : Sf := seq_ (asg_ 5 (un absW (un intW (bin ixW (var_ 0) (var_ 4))))) (seq_ (asg_ 3 (bin modW (un intW (bin addW (bin addW (bin mulW (var_ 3) (cst_ (.int 48271))) (bin modW (var_ 5) (cst_ (.int 1000003)))) (var_ 4))) (cst_ (.int 65537)))) (seq_ (asg_ 6 (cst_ (.int 0))) (seq_ d_cell (for_ (rng1_ (cons_ (cst_ (.int 60)) (nil_))) (bN 7) d_turn))))
noncomputable def d_more : Sf := seq_ (asg_ 3 (bin modW (un intW (bin addW (bin addW (bin mulW (var_ 3) (cst_ (.int 16807))) (var_ 4)) (cst_ (.int 1)))) (cst_ (.int 65537)))) (app_ 2 (bin modW (un intW (var_ 3)) (cst_ (.int 997))))
noncomputable def fb_law_draws : Sf := seq_ (own_ 2 (olst_ (nil_))) (seq_ (asg_ 3 (cst_ (.int 7))) (seq_ (for_ (rng1_ (cons_ (un lenW (var_ 0)) (nil_))) (bN 4) d_one) (seq_ (for_ (rng1_ (cons_ (var_ 1) (nil_))) (bN 4) d_more) (ret_ (sl_ (look_ 2) (noPart) (part (var_ 1)))))))
noncomputable def g_law_draws : Df := run_ 8 fb_law_draws
/-- _law_next: slots 0 w, 1 many -/
noncomputable def fb_law_next : Sf := seq_ (fadd_ "at" (var_ 0) (cst_ (.int 1))) (seq_ (if_ (tst_ (bin gtW (bin ixW (var_ 0) (cst_ (.str "at"))) (un lenW (bin ixW (var_ 0) (cst_ (.str "draws")))))) (ret_ (cst_ (.int 0))) (skip_)) (ret_ (bin modW (un intW (bin ixW (bin ixW (var_ 0) (cst_ (.str "draws"))) (bin subW (bin ixW (var_ 0) (cst_ (.str "at"))) (cst_ (.int 1))))) (var_ 1))))
/-- _law_same: slots 0 told, 1 due -/
noncomputable def fb_law_same : Sf := ret_ (andV_ (bin eqW (var_ 0) (var_ 1)) (bin reqW (var_ 0) (var_ 1)))
noncomputable def g_law_next : Df := run_ 2 fb_law_next
noncomputable def g_law_same : Df := run_ 2 fb_law_same

theorem same_spec {w : W} (h : Fine w) (st : Store) : g_law_same [w, w] st = .ok (.bl true) st := by
  obtain ⟨h1, h2, h3⟩ := h
  have e := eqv_refl 60 w h1
  have r := reprOk_of h2 h3
  simp [g_law_same, fb_law_same, run_, ret_, andV_, bin, var_, eqW, reqW, h1, e, r]
theorem look1 {x y : O} : List.lookup ("draws" : Str) [(("draws" : Str), x), ("at", y)] = some x := by simp [List.lookup]
theorem ne_da : (("at" : Str) == "draws") = false := by decide +kernel
theorem look2 {x y : O} : List.lookup ("at" : Str) [(("draws" : Str), x), ("at", y)] = some y := by simp [List.lookup, ne_da]
theorem ne_da' : ¬ (("draws" : Str) = "at") := by decide +kernel
theorem put2 {x y z : O} : putO [(("draws" : Str), x), ("at", y)] "at" z = [(("draws" : Str), x), ("at", z)] := by simp [putO, ne_da']
theorem next_spec {st : Store} (h : WS st) {m : Int} (hm : 0 < m) : ∃ v st', g_law_next [.ref 0, .int m] st = .ok (.int v) st' ∧ 0 ≤ v ∧ v < m ∧ WS st' := by
  obtain ⟨ds, k, rfl, hk⟩ := h
  have hm0 : m ≠ 0 := by omega
  have run1 : fadd_ "at" (var_ 0) (cst_ (.int 1)) [some (.w (.ref 0)), some (.w (.int m))] (stW ds k) = .ok (.nx [some (.w (.ref 0)), some (.w (.int m))]) (stW ds (k + 1)) := by
    simp [fadd_, var_, cst_, stW, look2, put2]
  by_cases hlt : k + 1 > (ds.length : Int)
  · refine ⟨0, stW ds (k + 1), ?_, Int.le_refl _, hm, ds, k + 1, rfl, by omega⟩
    unfold g_law_next run_ fb_law_next seq_
    simp only [List.map_cons, List.map_nil, List.length_cons, List.length_nil, Nat.sub_self, List.replicate_zero, List.append_nil, Nat.reduceAdd, run1, R.ok_bind]
    simp [if_, tst_, bin, un, var_, cst_, gtW, ixW, lenW, stW, look1, look2, ret_, hlt]
  · have hi : ∃ d, ds[k.toNat]? = some d := ⟨ds[k.toNat]'(by omega), List.getElem?_eq_getElem (by omega)⟩
    obtain ⟨d, hd⟩ := hi
    have hat : L2.atI (ds.map W.int) k = some (.int d) := by
      have e1 : L2.ixN (ds.map W.int).length k = some k.toNat := by
        unfold L2.ixN
        rw [List.length_map, if_pos hk, if_pos (by omega)]
      unfold L2.atI
      rw [e1]
      show (ds.map W.int)[k.toNat]? = _
      rw [List.getElem?_map, hd]
      rfl
    refine ⟨d.fmod m, stW ds (k + 1), ?_, Int.fmod_nonneg_of_pos _ hm, Int.fmod_lt_of_pos _ hm, ds, k + 1, rfl, by omega⟩
    unfold g_law_next run_ fb_law_next seq_
    simp only [List.map_cons, List.map_nil, List.length_cons, List.length_nil, Nat.sub_self, List.replicate_zero, List.append_nil, Nat.reduceAdd, run1, R.ok_bind]
    simp [if_, tst_, bin, un, var_, cst_, gtW, subW, ixW, lenW, intW, modW, stW, look1, look2, ret_, hlt, hat, skip_, hm0]
/-! ### _law_draws -/
theorem setL {xs : List (Option O)} {i : Nat} {v : Option O} {j : Nat} (h : j ≠ i) : (xs.set i v)[j]? = xs[j]? := List.getElem?_set_ne (Ne.symm h)
/-- the frame of _law_draws -/
def DE (ns : List Int) (m : Int) (acc : List Int) (mx : Int) (a b c d : Option O) : Env := [some (.w (.scr ns)), some (.w (.int m)), some (.ol (acc.map .int)), some (.w (.int mx)), a, b, c, d]
theorem app_int {acc : List Int} {ns : List Int} {m mx v : Int} {a b c d : Option O} {st st' : Store} {f : Ef} (hf : f (DE ns m acc mx a b c d) st = .ok (.int v) st') (hl : acc.length < LIM) :
    app_ 2 f (DE ns m acc mx a b c d) st = .ok (.nx (DE ns m (acc ++ [v]) mx a b c d)) st' := by
  unfold app_
  rw [hf]
  simp [DE, hl]
theorem small48271 : small 48271 = true := by decide
theorem small69621 : small 69621 = true := by decide
theorem small16807 : small 16807 = true := by decide
theorem turn_step {ns acc : List Int} {m mx r : Int} {a b d : Option O} {st : Store} (hl : acc.length < LIM) :
    ∃ acc' r', d_turn (DE ns m acc mx a b (some (.w (.int r))) d) st = .ok (.nx (DE ns m acc' mx a b (some (.w (.int r'))) d)) st ∧ acc'.length ≤ acc.length + 1 := by
  by_cases h : r > 0
  · refine ⟨acc ++ [r.fmod 997], r.fdiv 997, ?_, by simp⟩
    simp [d_turn, if_, tst_, bin, un, var_, cst_, gtW, intW, modW, divW, seq_, asg_, app_, DE, h, hl]
  · refine ⟨acc, r, ?_, by omega⟩
    simp [d_turn, if_, tst_, bin, un, var_, cst_, gtW, DE, h, skip_]
theorem rgW_get {lo : Int} {n i : Nat} {w : W} (h : (rgW lo n)[i]? = some w) : w = .int (lo + (i : Nat)) ∧ i < n := by
  unfold rgW at h
  rw [List.getElem?_map] at h
  obtain ⟨j, h1, h2⟩ := Option.map_eq_some_iff.mp h
  have hlt := (List.getElem?_eq_some_iff.mp h1).1
  rw [List.length_range] at hlt
  rw [List.getElem?_range hlt] at h1
  cases h1
  exact ⟨h2.symm, hlt⟩
theorem rgOk_small {a b : Int} (h1 : -1000000 ≤ a) (h2 : a ≤ 1000000) (h3 : -1000000 ≤ b) (h4 : b ≤ 1000000) : rgOk a b = true := by
  unfold rgOk
  rw [decide_eq_true_eq]
  refine ⟨by omega, by omega, by omega, by omega, ?_⟩
  show (b - a).toNat ≤ 16777216
  omega
theorem turns_step {ns acc : List Int} {m mx r : Int} {a b d : Option O} {st : Store} (hl : acc.length ≤ 200000) :
    ∃ acc' r' d', for_ (rng1_ (cons_ (cst_ (.int 60)) (nil_))) (bN 7) d_turn (DE ns m acc mx a b (some (.w (.int r))) d) st = .ok (.nx (DE ns m acc' mx a b (some (.w (.int r'))) d')) st ∧ acc'.length ≤ acc.length + 60 := by
  have hr : rng1_ (cons_ (cst_ (.int 60)) (nil_)) (DE ns m acc mx a b (some (.w (.int r))) d) st = .ok (rgW 0 60) st := by
    have : rgOk 0 60 = true := rgOk_small (by omega) (by omega) (by omega) (by omega)
    exact rng1_ok (by simp [cons_, nil_, cst_]) this
  obtain ⟨env', st', e, acc', r', d', h1, h2, h3⟩ := forL_all (b := bN 7) (f := d_turn) (fun i env s => ∃ acc' r' d', env = DE ns m acc' mx a b (some (.w (.int r'))) d' ∧ s = st ∧ acc'.length ≤ acc.length + i) (rgW 0 60)
    (DE ns m acc mx a b (some (.w (.int r))) d) st ⟨acc, r, d, rfl, rfl, by omega⟩ (fun i w hi env s ⟨acc', r', d', h1, h2, h3⟩ => by
      subst h1 h2
      have hlt := (rgW_get hi).2
      have hL : acc'.length < LIM := by show acc'.length < 16777216; omega
      obtain ⟨acc2, r2, e, h⟩ := turn_step (ns := ns) (acc := acc') (m := m) (mx := mx) (r := r') (a := a) (b := b) (d := some (.w w)) (st := s) hL
      exact ⟨_, _, s, rfl, e, acc2, r2, _, rfl, rfl, by omega⟩)
  subst h1 h2
  refine ⟨acc', r', d', ?_, by rw [rgW_length] at h3; exact h3⟩
  exact for_ok hr e
theorem cell_step {ns acc : List Int} {m mx v r : Int} {a d : Option O} {st : Store} (hl : acc.length ≤ 100000) :
    ∃ acc' r', d_cell (DE ns m acc mx a (some (.w (.int v))) (some (.w (.int r))) d) st = .ok (.nx (DE ns m acc' mx a (some (.w (.int v))) (some (.w (.int r'))) d)) st ∧ acc'.length ≤ acc.length + 2 := by
  have hL : acc.length < LIM := by show acc.length < 16777216; omega
  have hL2 : acc.length + 1 < LIM := by show acc.length + 1 < 16777216; omega
  have hp : powW (.int 10) (.int 18) st = .ok (.int (10 ^ 18)) st := by simp [powW]
  by_cases h : (10 : Int) ^ 18 ≤ v
  · refine ⟨acc, v, ?_, by omega⟩
    have h' : (1000000000000000000 : Int) ≤ v := by simpa using h
    simp [d_cell, if_, tst_, bin, var_, cst_, powW, geW, DE, asg_, h']
  · refine ⟨acc ++ [v.fmod 997] ++ [((mx * 69621 + 5).fmod 65521).fmod 997], r, ?_, by simp⟩
    have h' : ¬ (1000000000000000000 : Int) ≤ v := by simpa using h
    simp [d_cell, if_, tst_, bin, un, var_, cst_, powW, geW, DE, asg_, h', seq_, app_, modW, intW, mulW, addW, small69621, hL, hL2]
theorem one_step {ns acc : List Int} {m mx : Int} {i : Nat} {n : Int} {b c d : Option O} {st : Store} (hi : ns[i]? = some n) (hl : acc.length ≤ 100000) :
    ∃ acc' mx' b' c' d', d_one (DE ns m acc mx (some (.w (.int i))) b c d) st = .ok (.nx (DE ns m acc' mx' (some (.w (.int i))) b' c' d')) st ∧ acc'.length ≤ acc.length + 62 := by
  have hlt := (List.getElem?_eq_some_iff.mp hi).1
  have hat : L2.atI ns (i : Int) = some n := by
    unfold L2.atI L2.ixN
    rw [if_pos (by omega), if_pos (by omega)]
    simpa using hi
  obtain ⟨v, hv⟩ : ∃ v : Int, (if n < 0 then -n else n) = v := ⟨_, rfl⟩
  obtain ⟨mx2, hx⟩ : ∃ mx2 : Int, (mx * 48271 + v.fmod 1000003 + (i : Int)).fmod 65537 = mx2 := ⟨_, rfl⟩
  obtain ⟨acc1, r1, e1, l1⟩ := cell_step (ns := ns) (acc := acc) (m := m) (mx := mx2) (v := v) (r := 0) (a := some (.w (.int i))) (d := d) (st := st) hl
  obtain ⟨acc2, r2, d2, e2, l2⟩ := turns_step (ns := ns) (acc := acc1) (m := m) (mx := mx2) (r := r1) (a := some (.w (.int i))) (b := some (.w (.int v))) (d := d) (st := st) (by omega)
  refine ⟨acc2, mx2, some (.w (.int v)), some (.w (.int r2)), d2, ?_, by omega⟩
  have s1 : asg_ 5 (un absW (un intW (bin ixW (var_ 0) (var_ 4)))) (DE ns m acc mx (some (.w (.int i))) b c d) st = .ok (.nx (DE ns m acc mx (some (.w (.int i))) (some (.w (.int v))) c d)) st := by
    simp [asg_, un, bin, var_, DE, ixW, hat, intW, absW, hv]
  have s2 : asg_ 3 (bin modW (un intW (bin addW (bin addW (bin mulW (var_ 3) (cst_ (.int 48271))) (bin modW (var_ 5) (cst_ (.int 1000003)))) (var_ 4))) (cst_ (.int 65537))) (DE ns m acc mx (some (.w (.int i))) (some (.w (.int v))) c d) st = .ok (.nx (DE ns m acc mx2 (some (.w (.int i))) (some (.w (.int v))) c d)) st := by
    simp [asg_, un, bin, var_, cst_, DE, modW, intW, addW, mulW, small48271, hx]
  have s3 : asg_ 6 (cst_ (.int 0)) (DE ns m acc mx2 (some (.w (.int i))) (some (.w (.int v))) c d) st = .ok (.nx (DE ns m acc mx2 (some (.w (.int i))) (some (.w (.int v))) (some (.w (.int 0))) d)) st := by
    simp [asg_, cst_, DE]
  exact seq_ok s1 (seq_ok s2 (seq_ok s3 (seq_ok e1 e2)))
theorem draws_spec (ns : List Int) (hl : ns.length ≤ 63) (m : Int) (h0 : 0 ≤ m) (h1 : m ≤ 1000) (st : Store) : ∃ ds : List Int, g_law_draws [.scr ns, .int m] st = .ok (.lst (ds.map .int)) st := by
  let S : Nat → Nat → Env → Store → Prop := fun B i env s => ∃ acc mx a b c d, env = DE ns m acc mx a b c d ∧ s = st ∧ acc.length ≤ B * i
  have r1 : ∀ acc mx a b c d, rng1_ (cons_ (un lenW (var_ 0)) (nil_)) (DE ns m acc mx a b c d) st = .ok (rgW 0 ns.length) st := fun acc mx a b c d => by
    have : rgOk 0 ns.length = true := rgOk_small (by omega) (by omega) (by omega) (by omega)
    exact rng1_ok (n := (ns.length : Int)) (by simp [cons_, nil_, un, var_, DE, lenW]) this
  have r2 : ∀ acc mx a b c d, rng1_ (cons_ (var_ 1) (nil_)) (DE ns m acc mx a b c d) st = .ok (rgW 0 m.toNat) st := fun acc mx a b c d => by
    have : rgOk 0 m = true := rgOk_small (by omega) (by omega) (by omega) (by omega)
    exact rng1_ok (by simp [cons_, nil_, var_, DE]) this
  obtain ⟨env1, st1, e1, acc, mx, a, b, c, d, q1, q2, q3⟩ := forL_all (b := bN 4) (f := d_one) (S 62) (rgW 0 ns.length) (DE ns m [] 7 none none none none) st ⟨[], 7, none, none, none, none, rfl, rfl, Nat.zero_le _⟩ (fun i w hi env s ⟨acc, mx, a, b, c, d, h1, h2, h3⟩ => by
    subst h1 h2
    obtain ⟨rfl, hlt⟩ := rgW_get hi
    obtain ⟨acc', mx', b', c', d', e, h⟩ := one_step (ns := ns) (acc := acc) (m := m) (mx := mx) (i := i) (b := b) (c := c) (d := d) (st := s) (List.getElem?_eq_getElem hlt) (by omega)
    refine ⟨DE ns m acc mx (some (.w (.int i))) b c d, _, s, by simp [bN, DE], e, acc', mx', _, b', c', d', rfl, rfl, by omega⟩)
  subst q1 q2
  rw [rgW_length] at q3
  obtain ⟨env2, st2, e2, acc2, mx2, a2, b2, c2, d2, p1, p2, p3⟩ := forL_all (b := bN 4) (f := d_more) (fun i env s => ∃ acc2 mx a b c d, env = DE ns m acc2 mx a b c d ∧ s = st1 ∧ acc2.length ≤ acc.length + i) (rgW 0 m.toNat) (DE ns m acc mx a b c d) st1 ⟨acc, mx, a, b, c, d, rfl, rfl, by omega⟩ (fun i w hi env s ⟨acc2, mx, a, b, c, d, h1, h2, h3⟩ => by
    subst h1 h2
    obtain ⟨rfl, hlt⟩ := rgW_get hi
    have hL : acc2.length < LIM := by show acc2.length < 16777216; omega
    refine ⟨DE ns m acc2 mx (some (.w (.int i))) b c d, DE ns m (acc2 ++ [((mx * 16807 + (i : Int) + 1).fmod 65537).fmod 997]) ((mx * 16807 + (i : Int) + 1).fmod 65537) (some (.w (.int i))) b c d, s, by simp [bN, DE], ?_, _, _, _, _, _, _, rfl, rfl, by rw [List.length_append, List.length_singleton]; omega⟩
    simp [d_more, seq_, asg_, app_, un, bin, var_, cst_, DE, modW, intW, addW, mulW, small16807, hL])
  subst p1 p2
  refine ⟨cutW acc2 none (some m), ?_⟩
  have o1 : own_ 2 (olst_ (nil_)) (List.map (fun w => some (O.w w)) [W.scr ns, W.int m] ++ List.replicate (8 - [W.scr ns, W.int m].length) none) st2 = .ok (.nx [some (.w (.scr ns)), some (.w (.int m)), some (.ol []), none, none, none, none, none]) st2 := by
    simp [own_, olst_, nil_, O.isNew, List.replicate]
  have o2 : asg_ 3 (cst_ (.int 7)) [some (.w (.scr ns)), some (.w (.int m)), some (.ol []), none, none, none, none, none] st2 = .ok (.nx (DE ns m [] 7 none none none none)) st2 := by
    simp [asg_, cst_, DE]
  have cut : cutW (acc2.map W.int) none (some m) = (cutW acc2 none (some m)).map W.int := by
    unfold cutW
    simp [List.map_take, List.map_drop]
  have o3 : ret_ (sl_ (look_ 2) (noPart) (part (var_ 1))) (DE ns m acc2 mx2 a2 b2 c2 d2) st2 = .ok (.rt (.lst ((cutW acc2 none (some m)).map W.int))) st2 := by
    simp [ret_, sl_, look_, DE, O.view, noPart, part, var_, slW, cut]
  exact run_rt (seq_ok o1 (seq_ok o2 (seq_ok (for_ok (r1 ..) e1) (seq_ok (for_ok (r2 ..) e2) o3))))
end Cr
/-! Pl3: dicts with int keys, sorted lists, least ones. -/
namespace Cr
open PySem PySem.Spec PyProof.Rows L2

theorem getW_put (kvs : List (Key × W)) (k k' : Key) (v : W) : getW (putW kvs k v) k' = if k' = k then some v else getW kvs k' := by
  unfold putW
  by_cases ha : (kvs.any fun kv => decide (kv.1 = k)) = true
  · rw [if_pos ha]
    induction kvs with
    | nil => simp at ha
    | cons p r ih =>
      rw [List.map_cons]
      by_cases hp : p.1 = k
      · rw [if_pos hp]
        by_cases hk : k' = k
        · rw [if_pos hk]
          exact getW_pos (p := (p.1, v)) (by rw [hk]; exact hp)
        · rw [if_neg hk, getW_neg (p := (p.1, v)) (fun z => hk (z.symm.trans hp)), getW_neg (p := p) (fun z => hk (z.symm.trans hp))]
          by_cases hr : (r.any fun kv => decide (kv.1 = k)) = true
          · have := ih hr
            rwa [if_neg hk] at this
          · have e : (r.map fun kv => if kv.1 = k then (kv.1, v) else kv) = r := by
              have h2 : ∀ kv ∈ r, ¬ kv.1 = k := fun kv hm z => hr (List.any_eq_true.mpr ⟨kv, hm, by simpa using z⟩)
              conv => rhs; rw [← List.map_id r]
              exact List.map_congr_left fun kv hm => by rw [if_neg (h2 kv hm)]; rfl
            rw [e]
      · rw [if_neg hp]
        have hr : (r.any fun kv => decide (kv.1 = k)) = true := by
          rw [List.any_cons] at ha
          simpa [hp] using ha
        by_cases hq : p.1 = k'
        · rw [getW_pos hq, getW_pos hq, if_neg (fun z => hp (hq.trans z))]
        · rw [getW_neg hq, getW_neg hq]
          exact ih hr
  · rw [if_neg ha]
    have h2 : ∀ kv ∈ kvs, ¬ kv.1 = k := fun kv hm z => ha (List.any_eq_true.mpr ⟨kv, hm, by simpa using z⟩)
    clear ha
    induction kvs with
    | nil =>
      by_cases hk : k' = k
      · rw [if_pos hk]; exact getW_pos (p := (k, v)) hk.symm
      · rw [if_neg hk]; exact getW_neg (p := (k, v)) (Ne.symm hk)
    | cons p r ih =>
      have ih := ih fun kv hm => h2 kv (List.mem_cons_of_mem _ hm)
      rw [List.cons_append]
      by_cases hq : p.1 = k'
      · rw [getW_pos hq, getW_pos hq, if_neg (fun z => h2 p List.mem_cons_self (hq.trans z))]
      · rw [getW_neg hq, getW_neg hq]
        exact ih
def dstep (ks : List Int) (x : Int) : List Int := if x ∈ ks then ks else ks ++ [x]
/-- each once, as first met -/
def dst (xs : List Int) : List Int := xs.foldl dstep []
theorem keysI_some : ∀ {kvs : List (Key × W)} {ks : List Int}, keysI kvs = some ks ↔ kvs.map (·.1) = ks.map Sum.inl
  | [], ks => by
    constructor
    · intro h; cases h; rfl
    · intro h
      cases ks with
      | nil => rfl
      | cons _ _ => simp at h
  | (.inl i, v) :: r, ks => by
    constructor
    · exact keysI_eq
    · intro h
      cases ks with
      | nil => simp at h
      | cons k ks =>
        rw [List.map_cons, List.map_cons, List.cons.injEq] at h
        have h1 : Sum.inl i = Sum.inl k := h.1
        cases h1
        simp only [keysI, (keysI_some (kvs := r) (ks := ks)).mpr h.2, Option.map_some]
  | (.inr i, v) :: r, ks => by
    constructor
    · intro h; cases h
    · intro h
      cases ks with
      | nil => simp at h
      | cons k ks =>
        rw [List.map_cons, List.map_cons, List.cons.injEq] at h
        have h1 : Sum.inr i = Sum.inl k := h.1
        cases h1
theorem keysI_put {kvs : List (Key × W)} {ks : List Int} (h : keysI kvs = some ks) (x : Int) (v : W) : keysI (putW kvs (.inl x) v) = some (dstep ks x) := by
  rw [keysI_some] at h ⊢
  have hm : (kvs.any fun kv => decide (kv.1 = Sum.inl x)) = true ↔ x ∈ ks := by
    rw [List.any_eq_true]
    constructor
    · rintro ⟨kv, h1, h2⟩
      have : kv.1 ∈ kvs.map (·.1) := List.mem_map.mpr ⟨kv, h1, rfl⟩
      rw [h, of_decide_eq_true h2] at this
      obtain ⟨y, h3, h4⟩ := List.mem_map.mp this
      cases h4; exact h3
    · intro hx
      have : (Sum.inl x : Key) ∈ kvs.map (·.1) := by rw [h]; exact List.mem_map.mpr ⟨x, hx, rfl⟩
      obtain ⟨kv, h3, h4⟩ := List.mem_map.mp this
      exact ⟨kv, h3, decide_eq_true h4⟩
  unfold putW dstep
  by_cases hx : x ∈ ks
  · rw [if_pos (hm.mpr hx), if_pos hx, List.map_map, ← h]
    refine List.map_congr_left fun kv _ => ?_
    show (if kv.1 = Sum.inl x then (kv.1, v) else kv).1 = kv.1
    split <;> rfl
  · rw [if_neg (fun z => hx (hm.mp z)), if_neg hx, List.map_append, List.map_append, h]
    rfl
theorem mem_dstep {ks : List Int} {x y : Int} : y ∈ dstep ks x ↔ y ∈ ks ∨ y = x := by
  unfold dstep
  by_cases hx : x ∈ ks
  · rw [if_pos hx]
    exact ⟨.inl, fun h => h.elim id fun e => e ▸ hx⟩
  · rw [if_neg hx]; simp
theorem nodup_dstep {ks : List Int} {x : Int} (h : ks.Nodup) : (dstep ks x).Nodup := by
  unfold dstep
  by_cases hx : x ∈ ks
  · rw [if_pos hx]; exact h
  · rw [if_neg hx, List.nodup_append]
    exact ⟨h, by simp, fun a ha b hb => by rw [List.mem_singleton.mp hb]; intro e; exact hx (e ▸ ha)⟩
theorem length_dstep {ks : List Int} {x : Int} : (dstep ks x).length ≤ ks.length + 1 := by
  unfold dstep
  split
  · omega
  · rw [List.length_append]; exact Nat.le_refl _
theorem dfold_mem : ∀ (xs ks : List Int) (y : Int), y ∈ xs.foldl dstep ks ↔ y ∈ ks ∨ y ∈ xs
  | [], ks, y => by simp
  | x :: xs, ks, y => by
    rw [List.foldl_cons, dfold_mem xs, mem_dstep, List.mem_cons, or_assoc]
theorem dfold_nodup : ∀ (xs ks : List Int), ks.Nodup → (xs.foldl dstep ks).Nodup
  | [], _, h => h
  | x :: xs, ks, h => dfold_nodup xs _ (nodup_dstep h)
theorem dfold_length : ∀ (xs ks : List Int), (xs.foldl dstep ks).length ≤ ks.length + xs.length
  | [], _ => by simp
  | x :: xs, ks => by
    have := dfold_length xs (dstep ks x)
    have := length_dstep (ks := ks) (x := x)
    rw [List.foldl_cons, List.length_cons]; omega
theorem mem_dst {xs : List Int} {y : Int} : y ∈ dst xs ↔ y ∈ xs := by unfold dst; rw [dfold_mem]; simp
theorem nodup_dst (xs : List Int) : (dst xs).Nodup := dfold_nodup xs [] List.nodup_nil
theorem length_dst (xs : List Int) : (dst xs).length ≤ xs.length := by have := dfold_length xs []; simpa [dst] using this
theorem dst_snoc (xs : List Int) (x : Int) : dst (xs ++ [x]) = dstep (dst xs) x := by unfold dst; rw [List.foldl_append]; rfl
/-- {x: True ..} -/
abbrev trues (xs : List Int) : List (Key × W) := xs.map fun x => (Sum.inl x, W.bl true)
theorem keys_trues : ∀ (xs : List Int) {kvs : List (Key × W)} {ks : List Int}, keysI kvs = some ks → keysI (mergeW kvs (trues xs)) = some (xs.foldl dstep ks)
  | [], _, _, h => h
  | x :: xs, kvs, ks, h => keys_trues xs (kvs := putW kvs (.inl x) (.bl true)) (keysI_put h x _)
theorem mergeW_append (kvs a b : List (Key × W)) : mergeW kvs (a ++ b) = mergeW (mergeW kvs a) b := by unfold mergeW; rw [List.foldl_append]
/-! ### strictly rising lists -/
theorem sort_lt {xs : List Int} (h : xs.Nodup) : (sortI xs).Pairwise (· < ·) := by
  have h1 := sortI_sorted xs
  have h2 : (sortI xs).Nodup := (sortI_perm xs).nodup_iff.mpr h
  exact (h1.and h2).imp fun ⟨a, b⟩ => by omega
theorem mem_sort {xs : List Int} {y : Int} : y ∈ sortI xs ↔ y ∈ xs := (sortI_perm xs).mem_iff
theorem rising_take (k : Nat) : ∀ (S : List Int) (lo : Int), S.Pairwise (· < ·) → (∀ x ∈ S, lo ≤ x) → (∀ j : Nat, j < k → lo + (j : Int) ∈ S) → S.take k = (List.range k).map fun j : Nat => lo + (j : Int) := by
  induction k with
  | zero => intro S lo _ _ _; simp
  | succ k ih =>
    intro S lo hp hl hm
    cases S with
    | nil =>
      have := hm 0 (by omega)
      cases this
    | cons s S =>
      rw [List.pairwise_cons] at hp
      have hs : s = lo := by
        have h0 : lo ∈ s :: S := by simpa using hm 0 (by omega)
        have h1 := hl s List.mem_cons_self
        rcases List.mem_cons.mp h0 with e | e
        · exact e.symm
        · have := hp.1 lo e; omega
      subst hs
      have e := ih S (s + 1) hp.2 (fun x hx => by have := hp.1 x hx; omega) fun j hj => by
        have := hm (j + 1) (by omega)
        rcases List.mem_cons.mp this with e | e
        · omega
        · rwa [show s + 1 + (j : Int) = s + ((j + 1 : Nat) : Int) by omega]
      rw [List.take_succ_cons, e, List.range_succ_eq_map, List.map_cons, List.map_map]
      congr 1
      · simp
      · refine List.map_congr_left fun j _ => ?_
        show s + 1 + (j : Int) = s + ((j + 1 : Nat) : Int)
        omega
theorem rising_filter : ∀ (S : List Int) (i : Int), S.Pairwise (· < ·) → S.filter (fun x => decide (x < i)) = S.take (S.filter fun x => decide (x < i)).length
  | [], _, _ => rfl
  | s :: S, i, h => by
    rw [List.pairwise_cons] at h
    by_cases hs : s < i
    · rw [List.filter_cons_of_pos (by simpa using hs), List.length_cons, List.take_succ_cons, ← rising_filter S i h.2]
    · have e : S.filter (fun x => decide (x < i)) = [] := by
        rw [List.filter_eq_nil_iff]
        intro x hx
        have := h.1 x hx
        simp only [decide_eq_true_eq]; omega
      rw [List.filter_cons_of_neg (by simpa using hs), e]; rfl
theorem rising_next : ∀ (S : List Int) (i : Int), S.Pairwise (· < ·) → S.filter (fun x => decide (x < i + 1)) = S.filter (fun x => decide (x < i)) ++ if i ∈ S then [i] else []
  | [], _, _ => rfl
  | s :: S, i, h => by
    rw [List.pairwise_cons] at h
    have ih := rising_next S i h.2
    by_cases hs : s < i
    · have e : (i ∈ s :: S) ↔ i ∈ S := by
        rw [List.mem_cons]
        exact ⟨fun z => z.resolve_left (by omega), .inr⟩
      rw [List.filter_cons_of_pos (by simp only [decide_eq_true_eq]; omega), List.filter_cons_of_pos (by simpa using hs), ih, List.cons_append]
      simp only [e]
    · have e : ∀ j, j ≤ i + 1 → S.filter (fun x => decide (x < j)) = [] := fun j hj => by
        rw [List.filter_eq_nil_iff]
        intro x hx
        have := h.1 x hx
        simp only [decide_eq_true_eq]; omega
      by_cases hi : s = i
      · subst hi
        rw [List.filter_cons_of_pos (by simp only [decide_eq_true_eq]; omega), List.filter_cons_of_neg (by simp), e _ (Int.le_refl _), e _ (by omega), if_pos List.mem_cons_self]; rfl
      · rw [List.filter_cons_of_neg (by simp only [decide_eq_true_eq]; omega), List.filter_cons_of_neg (by simpa using hs), e _ (Int.le_refl _), e _ (by omega), if_neg]; rfl
        intro z
        rcases List.mem_cons.mp z with z | z
        · exact hi z.symm
        · have := h.1 i z; omega
/-! ### least ones -/
theorem minI_mem : ∀ {xs : List Int}, xs ≠ [] → minI xs ∈ xs
  | [], h => absurd rfl h
  | [x], _ => List.mem_singleton.mpr rfl
  | x :: y :: r, _ => by
    have := minI_mem (xs := y :: r) (by simp)
    show min x (minI (y :: r)) ∈ _
    rcases Int.le_total x (minI (y :: r)) with z | z
    · rw [Int.min_eq_left z]; exact List.mem_cons_self
    · rw [Int.min_eq_right z]; exact List.mem_cons_of_mem _ this
theorem minI_le : ∀ {xs : List Int} {y : Int}, y ∈ xs → minI xs ≤ y
  | [x], y, h => by rw [List.mem_singleton.mp h]; exact Int.le_refl _
  | x :: z :: r, y, h => by
    show min x (minI (z :: r)) ≤ y
    rcases List.mem_cons.mp h with e | e
    · omega
    · have := minI_le (xs := z :: r) e; omega
theorem minI_snoc {xs : List Int} {x : Int} : minI (xs ++ [x]) = if xs = [] then x else min (minI xs) x := by
  by_cases h : xs = []
  · subst h; rfl
  · rw [if_neg h]
    symm
    refine minI_spec ?_ fun y hy => ?_
    · rcases Int.le_total (minI xs) x with z | z
      · rw [Int.min_eq_left z]; exact List.mem_append_left _ (minI_mem h)
      · rw [Int.min_eq_right z]; exact List.mem_append_right _ (List.mem_singleton.mpr rfl)
    · rcases List.mem_append.mp hy with e | e
      · have := minI_le e; omega
      · rw [List.mem_singleton.mp e]; omega
theorem sort_head {xs : List Int} {x : Int} {r : List Int} (h : sortI xs = x :: r) : x ∈ xs ∧ ∀ y ∈ xs, x ≤ y := by
  have hs := sortI_sorted xs
  rw [h, List.pairwise_cons] at hs
  refine ⟨mem_sort.mp (by rw [h]; exact List.mem_cons_self), fun y hy => ?_⟩
  have : y ∈ x :: r := by rw [← h]; exact mem_sort.mpr hy
  rcases List.mem_cons.mp this with e | e
  · omega
  · exact hs.1 y e
end Cr
namespace Cr.L61
open PySem PySem.Spec PyProof.Rows L2 Cr
/-! what each def computes -/
/-- stretch_of: slots 0 day, 1 today, 2 every -/
noncomputable def s_stretch_of_1 : Sf := ret_ (bin divW (bin subW (var_ 1) (var_ 0)) (var_ 2))
noncomputable def fb_stretch_of : Sf := s_stretch_of_1
noncomputable def g_stretch_of : Df := run_ 3 fb_stretch_of
/-- kept_backups: slots 0 days, 1 today, 2 keeps, 3 found, 4 every, 5 many, 6 oldest, 7 day, 8 number -/
noncomputable def s_kept_backups_1 : Sf := own_ 3 (odct_)
noncomputable def s_kept_backups_3 : Sf := own_ 6 (odct_)
noncomputable def s_kept_backups_5 : Sf := asg_ 8 (call_ g_stretch_of (cons_ (var_ 7) (cons_ (var_ 1) (cons_ (var_ 4) (nil_)))))
noncomputable def s_kept_backups_6 : Sf := put_ 6 (var_ 8) (bin min2W (get_ (look_ 6) (var_ 8) (var_ 7)) (var_ 7))
noncomputable def s_kept_backups_4 : Sf := for_ (items_ (var_ 0)) (bN 7) (seq_ (s_kept_backups_5) (s_kept_backups_6))
noncomputable def s_kept_backups_8 : Sf := put_ 3 (bin ixW (look_ 6) (var_ 8)) (cst_ (.bl true))
noncomputable def s_kept_backups_7 : Sf := for_ (items_ (sl_ (un sortedW (look_ 6)) (noPart) (part (var_ 5)))) (bN 8) (s_kept_backups_8)
noncomputable def s_kept_backups_2 : Sf := for_ (items_ (var_ 2)) (bT 2 (bCons (bN 4) (bCons (bN 5) (bNil)))) (seq_ (s_kept_backups_3) (seq_ (s_kept_backups_4) (s_kept_backups_7)))
noncomputable def s_kept_backups_9 : Sf := ret_ (un tupleW (un sortedW (look_ 3)))
noncomputable def fb_kept_backups : Sf := seq_ (s_kept_backups_1) (seq_ (s_kept_backups_2) (s_kept_backups_9))
noncomputable def g_kept_backups : Df := run_ 9 fb_kept_backups
/-- _law_kept: slots 0 days, 1 today, 2 keeps, 3 found, 4 every, 5 many, 6 back, 7 met, 8 stretch, 9 day -/
noncomputable def s_law_kept_1 : Sf := own_ 3 (olst_ (nil_))
noncomputable def s_law_kept_3 : Sf := asgG_ (bT 2 (bCons (bN 6) (bCons (bN 7) (bNil)))) (tup_ (cons_ (bin addW (var_ 1) (cst_ (.int 1))) (cons_ (cst_ (.int 0)) (nil_))))
noncomputable def s_law_kept_5 : Sf := asg_ 8 (frzL_ (comp_ (looks_ (var_ 0)) [9] (bN 9) (tst_ (chn_ leW ltW (bin subW (var_ 6) (var_ 4)) (var_ 9) (var_ 6))) (var_ 9)))
noncomputable def s_law_kept_7 : Sf := app_ 3 (un minW (var_ 8))
noncomputable def s_law_kept_8 : Sf := asg_ 7 (bin addW (var_ 7) (cst_ (.int 1)))
noncomputable def s_law_kept_6 : Sf := if_ (tst_ (bin neW (var_ 8) (lst_ (nil_)))) (seq_ (s_law_kept_7) (s_law_kept_8)) (skip_)
noncomputable def s_law_kept_9 : Sf := asg_ 6 (bin subW (var_ 6) (var_ 4))
noncomputable def s_law_kept_4 : Sf := whl_ (and_ (tst_ (bin ltW (var_ 7) (var_ 5))) (tst_ (bin neW (frzL_ (comp_ (looks_ (var_ 0)) [9] (bN 9) (tst_ (bin ltW (var_ 9) (var_ 6))) (var_ 9))) (lst_ (nil_))))) (seq_ (s_law_kept_5) (seq_ (s_law_kept_6) (s_law_kept_9)))
noncomputable def s_law_kept_2 : Sf := for_ (items_ (var_ 2)) (bT 2 (bCons (bN 4) (bCons (bN 5) (bNil)))) (seq_ (s_law_kept_3) (s_law_kept_4))
noncomputable def s_law_kept_10 : Sf := ret_ (un tupleW (un sortedW (frz_ (odictP_ (frzL_ (comp_ (looks_ (look_ 3)) [9] (bN 9) (yes_) (tup_ (cons_ (var_ 9) (cons_ (cst_ (.bl true)) (nil_))))))))))
noncomputable def fb_law_kept : Sf := seq_ (s_law_kept_1) (seq_ (s_law_kept_2) (s_law_kept_10))
noncomputable def g_law_kept : Df := run_ 10 fb_law_kept
/-- oldest_kept: slots 0 keeps, 1 every, 2 many -/
noncomputable def s_oldest_kept_1 : Sf := ret_ (un maxW (bin addW (lst_ (cons_ (cst_ (.int 0)) (nil_))) (frzL_ (comp_ (looks_ (var_ 0)) [1, 2] (bT 2 (bCons (bN 1) (bCons (bN 2) (bNil)))) (tst_ (bin gtW (var_ 2) (cst_ (.int 0)))) (bin subW (bin mulW (var_ 1) (var_ 2)) (cst_ (.int 1)))))))
noncomputable def fb_oldest_kept : Sf := s_oldest_kept_1
noncomputable def g_oldest_kept : Df := run_ 3 fb_oldest_kept
/-- law: slots 0 script, 1 w, 2 turn, 3 thin, 4 days, 5 today, 6 keeps, 7 each, 8 day, 9 k -/
noncomputable def s_law_1 : Sf := asg_ 1 (sd2_ "draws" "at" (call_ g_law_draws (cons_ (var_ 0) (cons_ (cst_ (.int 200)) (nil_)))) (cst_ (.int 0)))
noncomputable def s_law_3 : Sf := asg_ 3 (bin addW (cst_ (.int 1)) (call_ g_law_next (cons_ (var_ 1) (cons_ (cst_ (.int 5)) (nil_)))))
noncomputable def s_law_4 : Sf := asg_ 4 (un tupleW (frzL_ (comp_ (rng2_ (cons_ (neg_ (cst_ (.int 25))) (cons_ (cst_ (.int 20)) (nil_)))) [8] (bN 8) (tst_ (bin eqW (call_ g_law_next (cons_ (var_ 1) (cons_ (var_ 3) (nil_)))) (cst_ (.int 0)))) (var_ 8))))
noncomputable def s_law_5 : Sf := asg_ 5 (bin addW (ife_ (tst_ (bin neW (var_ 4) (tup_ (nil_)))) (bin ixW (var_ 4) (neg_ (cst_ (.int 1)))) (cst_ (.int 0))) (bin ixW (lst_ (cons_ (cst_ (.int 0)) (cons_ (cst_ (.int 0)) (cons_ (cst_ (.int 1)) (cons_ (call_ g_law_next (cons_ (var_ 1) (cons_ (cst_ (.int 20)) (nil_)))) (nil_)))))) (call_ g_law_next (cons_ (var_ 1) (cons_ (cst_ (.int 4)) (nil_))))))
noncomputable def s_law_6 : Sf := asg_ 6 (un tupleW (frzL_ (comp_ (rng1_ (cons_ (call_ g_law_next (cons_ (var_ 1) (cons_ (cst_ (.int 4)) (nil_)))) (nil_))) [9] (bN 9) (yes_) (tup_ (cons_ (bin addW (cst_ (.int 1)) (call_ g_law_next (cons_ (var_ 1) (cons_ (cst_ (.int 12)) (nil_))))) (cons_ (bin addW (cst_ (.int 1)) (call_ g_law_next (cons_ (var_ 1) (cons_ (cst_ (.int 6)) (nil_))))) (nil_)))))))
noncomputable def s_law_8 : Sf := ret_ (cst_ (.bl false))
noncomputable def s_law_7 : Sf := if_ (not_ (tst_ (call_ g_law_same (cons_ (call_ g_kept_backups (cons_ (var_ 4) (cons_ (var_ 5) (cons_ (var_ 6) (nil_))))) (cons_ (call_ g_law_kept (cons_ (var_ 4) (cons_ (var_ 5) (cons_ (var_ 6) (nil_))))) (nil_)))))) (s_law_8) (skip_)
noncomputable def s_law_9 : Sf := asg_ 6 (bin addW (var_ 6) (tup_ (cons_ (tup_ (cons_ (bin addW (cst_ (.int 1)) (call_ g_law_next (cons_ (var_ 1) (cons_ (cst_ (.int 9)) (nil_))))) (cons_ (bin addW (cst_ (.int 1)) (call_ g_law_next (cons_ (var_ 1) (cons_ (cst_ (.int 5)) (nil_))))) (nil_)))) (nil_))))
noncomputable def s_law_10 : Sf := asg_ 7 (trg2_ (bin subW (var_ 5) (cst_ (.int 90))) (bin addW (var_ 5) (cst_ (.int 1))))
noncomputable def s_law_12 : Sf := ret_ (cst_ (.bl false))
noncomputable def s_law_11 : Sf := if_ (not_ (tst_ (call_ g_law_same (cons_ (call_ g_oldest_kept (cons_ (var_ 6) (nil_))) (cons_ (bin subW (var_ 5) (bin ixW (call_ g_law_kept (cons_ (var_ 7) (cons_ (var_ 5) (cons_ (var_ 6) (nil_))))) (cst_ (.int 0)))) (nil_)))))) (s_law_12) (skip_)
noncomputable def s_law_2 : Sf := for_ (rng1_ (cons_ (cst_ (.int 4)) (nil_))) (bN 2) (seq_ (s_law_3) (seq_ (s_law_4) (seq_ (s_law_5) (seq_ (s_law_6) (seq_ (s_law_7) (seq_ (s_law_9) (seq_ (s_law_10) (s_law_11))))))))
noncomputable def s_law_13 : Sf := ret_ (cst_ (.bl true))
noncomputable def fb_law : Sf := seq_ (s_law_1) (seq_ (s_law_2) (s_law_13))
noncomputable def g_law : Df := run_ 10 fb_law
end Cr.L61
/-! P61: the plain law. -/
namespace Cr.L61
open PySem PySem.Spec PyProof.Rows L2

/-- in which stretch a day lies -/
def nm (today e d : Int) : Int := (today - d).fdiv e
def tI (xs : List Int) : W := .tup (xs.map .int)
def pr (p : Int × Int) : W := .tup [.int p.1, .int p.2]
def kT (ks : List (Int × Int)) : W := .tup (ks.map pr)
/-- the stretches that are met, from the last -/
def Sx (today e : Int) (days : List Int) : List Int := sortI (dst (days.map (nm today e)))
def mn (today e : Int) (days : List Int) (n : Int) : Int := minI (days.filter fun d => decide (nm today e d = n))
def Lx (today : Int) (days : List Int) (p : Int × Int) : List Int := ((Sx today p.1 days).take p.2.toNat).map (mn today p.1 days)
def La (today : Int) (days : List Int) (keeps : List (Int × Int)) : List Int := keeps.flatMap (Lx today days)
structure KOk (p : Int × Int) : Prop where
  e1 : 1 ≤ p.1
  e2 : p.1 ≤ 12
  m1 : 1 ≤ p.2
  m2 : p.2 ≤ 6

theorem stretch_ok {d today e : Int} (h1 : 1 ≤ e) (h2 : e ≤ 12) (st : Store) : g_stretch_of [.int d, .int today, .int e] st = .ok (.int (nm today e d)) st := by
  have h0 : e ≠ 0 := by omega
  have h3 : e.natAbs < 1073741824 := by omega
  simp [g_stretch_of, fb_stretch_of, s_stretch_of_1, run_, ret_, bin, var_, subW, divW, h0, h3, nm]

/-! ### kept_backups -/
def AE (days : List Int) (today : Int) (keeps : List (Int × Int)) (found : List (Key × W)) (a b c d f : Option O) : Env :=
  [some (.w (tI days)), some (.w (.int today)), some (.w (kT keeps)), some (.od found), a, b, c, d, f]
/-- the dict of a keep, behind some days -/
structure Old (today e : Int) (pre : List Int) (kvs : List (Key × W)) : Prop where
  keys : keysI kvs = some (dst (pre.map (nm today e)))
  at_ : ∀ n, getW kvs (.inl n) = if n ∈ pre.map (nm today e) then some (.int (mn today e pre n)) else none
theorem old_nil {today e : Int} : Old today e [] [] := ⟨rfl, fun n => by simp [getW]⟩
theorem old_snoc {today e : Int} {pre : List Int} {kvs : List (Key × W)} (h : Old today e pre kvs) (d : Int) :
    ∃ o : Int, (getW kvs (.inl (nm today e d))).getD (.int d) = .int o ∧ Old today e (pre ++ [d]) (putW kvs (.inl (nm today e d)) (.int (if d < o then d else o))) := by
  have hf : ∀ n, (pre ++ [d]).filter (fun x => decide (nm today e x = n)) = pre.filter (fun x => decide (nm today e x = n)) ++ if nm today e d = n then [d] else [] := fun n => by
    rw [List.filter_append]
    by_cases h : nm today e d = n <;> simp [h]
  have hk : keysI (putW kvs (.inl (nm today e d)) (.int 0)) = some (dst ((pre ++ [d]).map (nm today e))) := by
    rw [List.map_append, List.map_cons, List.map_nil, dst_snoc]
    exact keysI_put h.keys _ _
  have hk' : ∀ v, keysI (putW kvs (.inl (nm today e d)) v) = some (dst ((pre ++ [d]).map (nm today e))) := fun v => by
    rw [List.map_append, List.map_cons, List.map_nil, dst_snoc]
    exact keysI_put h.keys _ _
  by_cases hm : nm today e d ∈ pre.map (nm today e)
  · have hg := h.at_ (nm today e d)
    rw [if_pos hm] at hg
    refine ⟨mn today e pre (nm today e d), by rw [hg]; rfl, hk' _, fun n => ?_⟩
    rw [getW_put]
    by_cases e1 : (Sum.inl n : Key) = Sum.inl (nm today e d)
    · have e2 : n = nm today e d := Sum.inl.inj e1
      subst e2
      rw [if_pos rfl, if_pos (List.mem_map.mpr ⟨d, by simp, rfl⟩)]
      have hne : ¬ pre.filter (fun x => decide (nm today e x = nm today e d)) = [] := by
        obtain ⟨x, hx, ex⟩ := List.mem_map.mp hm
        intro z
        have : x ∈ pre.filter (fun x => decide (nm today e x = nm today e d)) := List.mem_filter.mpr ⟨hx, by simpa using ex⟩
        rw [z] at this; cases this
      unfold mn
      rw [hf, if_pos rfl, minI_snoc, if_neg hne]
      congr 2
      split <;> omega
    · rw [if_neg e1, h.at_]
      have e2 : ¬ nm today e d = n := fun z => e1 (by rw [z])
      unfold mn
      rw [hf, if_neg e2, List.append_nil]
      have : (n ∈ (pre ++ [d]).map (nm today e)) ↔ n ∈ pre.map (nm today e) := by
        rw [List.map_append, List.mem_append, List.map_cons, List.map_nil, List.mem_singleton]
        exact ⟨fun z => z.resolve_right (fun q => e2 q.symm), .inl⟩
      simp only [this]
  · have hg := h.at_ (nm today e d)
    rw [if_neg hm] at hg
    refine ⟨d, by rw [hg]; rfl, hk' _, fun n => ?_⟩
    rw [getW_put]
    by_cases e1 : (Sum.inl n : Key) = Sum.inl (nm today e d)
    · have e2 : n = nm today e d := Sum.inl.inj e1
      subst e2
      rw [if_pos rfl, if_pos (List.mem_map.mpr ⟨d, by simp, rfl⟩)]
      have hne : pre.filter (fun x => decide (nm today e x = nm today e d)) = [] := by
        rw [List.filter_eq_nil_iff]
        intro x hx z
        exact hm (List.mem_map.mpr ⟨x, hx, by simpa using z⟩)
      unfold mn
      rw [hf, if_pos rfl, minI_snoc, if_pos hne]
      congr 2
      split <;> omega
    · rw [if_neg e1, h.at_]
      have e2 : ¬ nm today e d = n := fun z => e1 (by rw [z])
      unfold mn
      rw [hf, if_neg e2, List.append_nil]
      have : (n ∈ (pre ++ [d]).map (nm today e)) ↔ n ∈ pre.map (nm today e) := by
        rw [List.map_append, List.mem_append, List.map_cons, List.map_nil, List.mem_singleton]
        exact ⟨fun z => z.resolve_right (fun q => e2 q.symm), .inl⟩
      simp only [this]
theorem putW_len (k : Key) (w : W) (ws : List (Key × W)) : (putW ws k w).length ≤ ws.length + 1 := putW_length k w ws
section
variable {days : List Int} {today : Int} {keeps : List (Int × Int)} {found : List (Key × W)} {e m : Int} {st : Store}
theorem a_day {kvs : List (Key × W)} {d : Int} {f : Option O} {o : Int} (h1 : 1 ≤ e) (h2 : e ≤ 12) (hl : kvs.length < 1000) (hg : (getW kvs (.inl (nm today e d))).getD (.int d) = .int o) :
    seq_ (s_kept_backups_5) (s_kept_backups_6) (AE days today keeps found (some (.w (.int e))) (some (.w (.int m))) (some (.od kvs)) (some (.w (.int d))) f) st =
      .ok (.nx (AE days today keeps found (some (.w (.int e))) (some (.w (.int m))) (some (.od (putW kvs (.inl (nm today e d)) (.int (if d < o then d else o))))) (some (.w (.int d))) (some (.w (.int (nm today e d)))))) st := by
  have hL : kvs.length < LIM := by show kvs.length < 16777216; omega
  refine seq_ok (env1 := AE days today keeps found (some (.w (.int e))) (some (.w (.int m))) (some (.od kvs)) (some (.w (.int d))) (some (.w (.int (nm today e d))))) (st1 := st) ?_ ?_
  · exact asg_ok (call_ok (cons_ok (x := .int d) rfl (cons_ok (x := .int today) rfl (cons_ok (x := .int e) rfl rfl))) (stretch_ok h1 h2 st))
  · unfold s_kept_backups_6 put_
    have e1 : bin min2W (get_ (look_ 6) (var_ 8) (var_ 7)) (var_ 7) (AE days today keeps found (some (.w (.int e))) (some (.w (.int m))) (some (.od kvs)) (some (.w (.int d))) (some (.w (.int (nm today e d))))) st = .ok (.int (if d < o then d else o)) st := by
      refine bin_ok (x := .int o) (y := .int d) (st1 := st) (st2 := st) ?_ rfl rfl
      rw [← hg]
      rfl
    rw [e1]
    simp [AE, var_, W.key, hL]
theorem a_days (h1 : 1 ≤ e) (h2 : e ≤ 12) {c : Option O} {f : Option O} : ∀ (rest pre : List Int) (kvs : List (Key × W)) (c f : Option O), days = pre ++ rest → Old today e pre kvs → kvs.length ≤ pre.length → days.length < 500 →
    ∃ kvs' c' f', forL (bN 7) (seq_ (s_kept_backups_5) (s_kept_backups_6)) (rest.map .int) (AE days today keeps found (some (.w (.int e))) (some (.w (.int m))) (some (.od kvs)) c f) st =
      .ok (.nx (AE days today keeps found (some (.w (.int e))) (some (.w (.int m))) (some (.od kvs')) c' f')) st ∧ Old today e days kvs'
  | [], pre, kvs, c, f, hd, ho, _, _ => ⟨kvs, c, f, rfl, by rw [hd, List.append_nil]; exact ho⟩
  | d :: rest, pre, kvs, c, f, hd, ho, hl, hz => by
    obtain ⟨o, hg, ho'⟩ := old_snoc ho d
    have hdl : pre.length < days.length := by rw [hd]; simp
    obtain ⟨kvs', c', f', e3, h3⟩ := a_days h1 h2 (c := c) (f := f) rest (pre ++ [d]) _ (some (.w (.int d))) (some (.w (.int (nm today e d)))) (by rw [hd, List.append_assoc]; rfl) ho' (by rw [List.length_append, List.length_singleton]; have := putW_len (.inl (nm today e d)) (.int (if d < o then d else o)) kvs; omega) hz
    refine ⟨kvs', c', f', ?_, h3⟩
    rw [List.map_cons]
    exact forL_cons_ok rfl (a_day (days := days) (today := today) (keeps := keeps) (found := found) (m := m) (st := st) (f := f) h1 h2 (by omega) hg) e3
theorem a_pick {kvs : List (Key × W)} (ho : Old today e days kvs) {g : Option O} : ∀ (ns : List Int) (found : List (Key × W)) (f : Option O), (∀ n ∈ ns, n ∈ days.map (nm today e)) → found.length + ns.length < 1000 →
    ∃ f', forL (bN 8) s_kept_backups_8 (ns.map .int) (AE days today keeps found (some (.w (.int e))) (some (.w (.int m))) (some (.od kvs)) g f) st =
      .ok (.nx (AE days today keeps (mergeW found (trues (ns.map (mn today e days)))) (some (.w (.int e))) (some (.w (.int m))) (some (.od kvs)) g f')) st
  | [], found, f, _, _ => ⟨f, rfl⟩
  | n :: ns, found, f, hn, hl => by
    rw [List.length_cons] at hl
    obtain ⟨f', e3⟩ := a_pick ho (g := g) ns (putW found (.inl (mn today e days n)) (.bl true)) (some (.w (.int n))) (fun x hx => hn x (List.mem_cons_of_mem _ hx)) (by have := putW_len (.inl (mn today e days n)) (.bl true) found; omega)
    refine ⟨f', ?_⟩
    rw [List.map_cons]
    have hL : found.length < LIM := by show found.length < 16777216; omega
    have hg := ho.at_ n
    rw [if_pos (hn n List.mem_cons_self)] at hg
    have e1 : s_kept_backups_8 (AE days today keeps found (some (.w (.int e))) (some (.w (.int m))) (some (.od kvs)) g (some (.w (.int n)))) st = .ok (.nx (AE days today keeps (putW found (.inl (mn today e days n)) (.bl true)) (some (.w (.int e))) (some (.w (.int m))) (some (.od kvs)) g (some (.w (.int n))))) st := by
      unfold s_kept_backups_8 put_
      have e2 : bin ixW (look_ 6) (var_ 8) (AE days today keeps found (some (.w (.int e))) (some (.w (.int m))) (some (.od kvs)) g (some (.w (.int n)))) st = .ok (.int (mn today e days n)) st := by
        refine bin_ok (x := .dct kvs) (y := .int n) (st1 := st) (st2 := st) rfl rfl ?_
        show (match getW kvs (.inl n) with | some w => R.ok w st | none => R.no) = _
        rw [hg]
      show (R.ok (W.bl true) st).bind _ = _
      rw [R.ok_bind, e2]
      simp [AE, W.key, hL]
    exact forL_cons_ok rfl e1 e3
theorem cut_take (xs : List Int) (m : Int) (h : 0 ≤ m) : cutW (xs.map W.int) none (some m) = (xs.take m.toNat).map W.int := by
  unfold cutW
  have e1 : HT.sIx (xs.map W.int).length 0 none = 0 := rfl
  have e2 : HT.sIx (xs.map W.int).length (xs.map W.int).length (some m) = min m.toNat xs.length := by
    rw [List.length_map]
    unfold HT.sIx
    simp only []
    split <;> omega
  rw [e1, e2, List.drop_zero, Nat.sub_zero, ← List.map_take]
  congr 1
  rw [List.take_eq_take_iff]
  omega
theorem a_keep {p : Int × Int} (hp : KOk p) (hd : days.length < 64) {a b c d f : Option O} (hl : found.length < 500) :
    ∃ c' d' f', seq_ (s_kept_backups_3) (seq_ (s_kept_backups_4) (s_kept_backups_7)) (AE days today keeps found (some (.w (.int p.1))) (some (.w (.int p.2))) c d f) st =
      .ok (.nx (AE days today keeps (mergeW found (trues (Lx today days p))) (some (.w (.int p.1))) (some (.w (.int p.2))) c' d' f')) st := by
  obtain ⟨kvs, c1, f1, e1, ho⟩ := a_days (days := days) (today := today) (keeps := keeps) (found := found) (e := p.1) (m := p.2) (st := st) hp.e1 hp.e2 (c := none) (f := none) days [] [] d f rfl old_nil (Nat.zero_le _) (by omega)
  have hz : (dst (days.map (nm today p.1))).length < 64 := by have := length_dst (days.map (nm today p.1)); rw [List.length_map] at this; omega
  obtain ⟨f2, e2⟩ := a_pick (days := days) (today := today) (keeps := keeps) (e := p.1) (m := p.2) (st := st) ho (g := c1) ((Sx today p.1 days).take p.2.toNat) found f1 (fun n hn => mem_dst.mp (mem_sort.mp (List.mem_of_mem_take hn))) (by
    rw [List.length_take]
    have := hp.m2
    omega)
  refine ⟨some (.od kvs), c1, f2, ?_⟩
  refine seq_ok (env1 := AE days today keeps found (some (.w (.int p.1))) (some (.w (.int p.2))) (some (.od [])) d f) (st1 := st) rfl (seq_ok (env1 := AE days today keeps found (some (.w (.int p.1))) (some (.w (.int p.2))) (some (.od kvs)) c1 f1) (st1 := st) (for_ok rfl e1) (for_ok (ws := ((Sx today p.1 days).take p.2.toNat).map .int) (st1 := st) ?_ e2))
  have e3 : un sortedW (look_ 6) (AE days today keeps found (some (.w (.int p.1))) (some (.w (.int p.2))) (some (.od kvs)) c1 f1) st = .ok (.lst ((Sx today p.1 days).map .int)) st := by
    refine un_ok (x := .dct kvs) (st1 := st) rfl ?_
    unfold sortedW
    simp only [ho.keys]
    rw [if_pos hz]
    rfl
  have e4 : sl_ (un sortedW (look_ 6)) (noPart) (part (var_ 5)) (AE days today keeps found (some (.w (.int p.1))) (some (.w (.int p.2))) (some (.od kvs)) c1 f1) st = .ok (.lst (((Sx today p.1 days).take p.2.toNat).map .int)) st := by
    unfold sl_
    rw [e3]
    show R.ok (W.lst (cutW ((Sx today p.1 days).map W.int) none (some p.2))) st = _
    rw [cut_take _ _ (by have := hp.m1; omega)]
  unfold items_
  rw [e4]
  rfl
theorem Lx_len {p : Int × Int} (hp : KOk p) : (Lx today days p).length ≤ 6 := by
  unfold Lx
  rw [List.length_map, List.length_take]
  have := hp.m2
  omega
theorem mergeW_len (more kvs : List (Key × W)) : (mergeW kvs more).length ≤ kvs.length + more.length := mergeW_length more kvs
theorem a_keeps (hd : days.length < 64) : ∀ (ks : List (Int × Int)) (found : List (Key × W)) (a b c d f : Option O), (∀ p ∈ ks, KOk p) → found.length + 6 * ks.length < 400 →
    ∃ a' b' c' d' f', forL (bT 2 (bCons (bN 4) (bCons (bN 5) (bNil)))) (seq_ (s_kept_backups_3) (seq_ (s_kept_backups_4) (s_kept_backups_7))) (ks.map pr) (AE days today keeps found a b c d f) st =
      .ok (.nx (AE days today keeps (mergeW found (trues (La today days ks))) a' b' c' d' f')) st
  | [], found, a, b, c, d, f, _, _ => ⟨a, b, c, d, f, rfl⟩
  | p :: ks, found, a, b, c, d, f, hk, hl => by
    rw [List.length_cons] at hl
    have hp := hk p List.mem_cons_self
    obtain ⟨c1, d1, f1, e1⟩ := a_keep (days := days) (today := today) (keeps := keeps) (found := found) (st := st) hp hd (a := a) (b := b) (c := c) (d := d) (f := f) (by omega)
    obtain ⟨a', b', c', d', f', e2⟩ := a_keeps hd ks (mergeW found (trues (Lx today days p))) (some (.w (.int p.1))) (some (.w (.int p.2))) c1 d1 f1 (fun q hq => hk q (List.mem_cons_of_mem _ hq)) (by
      have h1 := mergeW_len (trues (Lx today days p)) found
      have h2 := Lx_len (today := today) (days := days) hp
      rw [List.length_map] at h1
      omega)
    refine ⟨a', b', c', d', f', ?_⟩
    have e3 : La today days (p :: ks) = Lx today days p ++ La today days ks := rfl
    rw [e3, show trues (Lx today days p ++ La today days ks) = trues (Lx today days p) ++ trues (La today days ks) from List.map_append, mergeW_append, List.map_cons]
    exact forL_cons_ok rfl e1 e2
theorem La_len : ∀ {ks : List (Int × Int)}, (∀ p ∈ ks, KOk p) → (La today days ks).length ≤ 6 * ks.length
  | [], _ => by simp [La]
  | p :: ks, hk => by
    have e3 : La today days (p :: ks) = Lx today days p ++ La today days ks := rfl
    have h1 := La_len (ks := ks) fun q hq => hk q (List.mem_cons_of_mem _ hq)
    have h2 := Lx_len (today := today) (days := days) (hk p List.mem_cons_self)
    rw [e3, List.length_append, List.length_cons]; omega
/-- what both give -/
def Res (today : Int) (days : List Int) (keeps : List (Int × Int)) : List Int := sortI (dst (La today days keeps))
theorem kept_ok (hd : days.length < 64) (hk : ∀ p ∈ keeps, KOk p) (hl : keeps.length ≤ 4) : g_kept_backups [tI days, .int today, kT keeps] st = .ok (tI (Res today days keeps)) st := by
  obtain ⟨a, b, c, d, f, e1⟩ := a_keeps (days := days) (today := today) (keeps := keeps) (st := st) hd keeps [] none none none none none hk (by simp; omega)
  refine run_rt (seq_ok (env1 := AE days today keeps [] none none none none none) (st1 := st) rfl (seq_ok (st1 := st) (for_ok rfl e1) ?_))
  have hz : (dst (La today days keeps)).length < 64 := by
    have h1 := length_dst (La today days keeps)
    have h2 := La_len (today := today) (days := days) hk
    omega
  refine ret_ok (un_ok (x := .lst ((Res today days keeps).map .int)) (st1 := st) (un_ok (x := .dct (mergeW [] (trues (La today days keeps)))) (st1 := st) rfl ?_) rfl)
  unfold sortedW
  have := keys_trues (La today days keeps) (kvs := []) (ks := []) rfl
  simp only [this]
  rw [if_pos (show (List.foldl dstep [] (La today days keeps)).length < 64 from hz)]
  rfl
end
end Cr.L61
/-! P61b: _law_kept. -/
namespace Cr
open PySem PySem.Spec PyProof.Rows L2
theorem compL_ints {vs : List Nat} {b : Bf} {ft : Tf} {fe : Ef} {env : Env} {st : Store} (q : Int → Bool) (g : Int → W) : ∀ (xs : List Int), (∀ x ∈ xs, ∃ env1, b (.int x) (wipeE env vs) = some env1 ∧ ft env1 st = .ok (q x) st ∧ (q x = true → fe env1 st = .ok (g x) st)) →
    compL vs b ft fe env (xs.map .int) st = .ok ((xs.filter q).map g) st
  | [], _ => rfl
  | x :: xs, h => by
    obtain ⟨env1, e1, e2, e3⟩ := h x List.mem_cons_self
    have r := compL_ints (vs := vs) (b := b) (ft := ft) (fe := fe) (env := env) (st := st) q g xs fun w' hw => h w' (List.mem_cons_of_mem _ hw)
    rw [List.map_cons]
    unfold compL
    cases hp : q x with
    | true => simp [e1, e2, hp, e3 hp, r]
    | false => simp [e1, e2, hp, r]
theorem comp_ints {fi : If} {vs : List Nat} {b : Bf} {ft : Tf} {fe : Ef} {env : Env} {st : Store} (xs : List Int) (q : Int → Bool) (g : Int → W) (hi : fi env st = .ok (xs.map .int) st) (h : ∀ x ∈ xs, ∃ env1, b (.int x) (wipeE env vs) = some env1 ∧ ft env1 st = .ok (q x) st ∧ (q x = true → fe env1 st = .ok (g x) st)) :
    comp_ fi vs b ft fe env st = .ok (.ol ((xs.filter q).map g)) st := comp_ok hi (compL_ints q g xs h)
theorem and_f {t u : Tf} {env : Env} {st st1 : Store} (h : t env st = .ok false st1) : and_ t u env st = .ok false st1 := by
  unfold and_
  rw [h]
  rfl
theorem and_t {t u : Tf} {env : Env} {st st1 : Store} {r : R Bool} (h : t env st = .ok true st1) (h2 : u env st1 = r) : and_ t u env st = r := by
  unfold and_
  rw [h]
  exact h2
theorem neW_nil (xs : List Int) (st : Store) : neW (.lst (xs.map .int)) (.lst []) st = .ok (.bl (!xs.isEmpty)) st := by
  unfold neW
  have f1 : W.fit 60 (.lst (xs.map .int)) = true := by simp only [W.fit]; exact ints_fit _ xs
  have f2 : W.fit 60 (.lst []) = true := by simp [W.fit]
  rw [f1, f2]
  cases xs with
  | nil => simp [W.py, W.pyL, PyData.eqv, PyData.eqvAll]
  | cons x xs => simp [W.py, W.pyL, PyData.eqv, PyData.eqvAll]
theorem pairs_trues : ∀ xs : List Int, pairsOf (xs.map fun x => .tup [.int x, .bl true]) = some (trues xs)
  | [] => rfl
  | x :: xs => by
    rw [List.map_cons]
    unfold pairsOf
    simp only [W.key, pairs_trues xs, Option.map_some]
    rfl
end Cr
namespace Cr.L61
open PySem PySem.Spec PyProof.Rows L2
def BE (days : List Int) (today : Int) (keeps : List (Int × Int)) (found : List Int) (a b c d g h : Option O) : Env :=
  [some (.w (tI days)), some (.w (.int today)), some (.w (kT keeps)), some (.ol (found.map .int)), a, b, c, d, g, h]
theorem nm_ge {today e d i : Int} (h : 1 ≤ e) : i ≤ nm today e d ↔ i * e ≤ today - d := by
  unfold nm
  rw [Int.fdiv_eq_ediv_of_nonneg _ (by omega)]
  exact Int.le_ediv_iff_mul_le (by omega)
theorem nm_eq {today e d i : Int} (h : 1 ≤ e) : nm today e d = i ↔ i * e ≤ today - d ∧ today - d < i * e + e := by
  have h1 := nm_ge (today := today) (e := e) (d := d) (i := i) h
  have h2 := nm_ge (today := today) (e := e) (d := d) (i := i + 1) h
  rw [Int.add_mul, Int.one_mul] at h2
  constructor
  · intro q
    exact ⟨h1.mp (by omega), by
      have : ¬ i * e + e ≤ today - d := fun z => by have := h2.mpr z; omega
      omega⟩
  · rintro ⟨q1, q2⟩
    have a := h1.mpr q1
    have b : ¬ i + 1 ≤ nm today e d := fun z => by have := h2.mp z; omega
    omega
theorem mem_S {today e n : Int} {days : List Int} : n ∈ Sx today e days ↔ ∃ d ∈ days, nm today e d = n := by
  unfold Sx
  rw [mem_sort, mem_dst, List.mem_map]
theorem S_lt (today e : Int) (days : List Int) : (Sx today e days).Pairwise (· < ·) := sort_lt (nodup_dst _)
section
variable {days : List Int} {today : Int} {keeps : List (Int × Int)} {st : Store}
abbrev bTest : Tf := and_ (tst_ (bin ltW (var_ 7) (var_ 5))) (tst_ (bin neW (frzL_ (comp_ (looks_ (var_ 0)) [9] (bN 9) (tst_ (bin ltW (var_ 9) (var_ 6))) (var_ 9))) (lst_ (nil_))))
noncomputable abbrev bBody : Sf := seq_ (s_law_kept_5) (seq_ (s_law_kept_6) (s_law_kept_9))
theorem b_any {found : List Int} {e m back met : Int} {g h : Option O} : bin neW (frzL_ (comp_ (looks_ (var_ 0)) [9] (bN 9) (tst_ (bin ltW (var_ 9) (var_ 6))) (var_ 9))) (lst_ (nil_)) (BE days today keeps found (some (.w (.int e))) (some (.w (.int m))) (some (.w (.int back))) (some (.w (.int met))) g h) st =
    .ok (.bl (!(days.filter fun d => decide (d < back)).isEmpty)) st := by
  refine bin_ok (x := .lst ((days.filter fun d => decide (d < back)).map .int)) (y := .lst []) (st1 := st) (st2 := st) (frzL_ok (comp_ints days (fun d => decide (d < back)) .int rfl fun x hx => ⟨_, rfl, rfl, fun _ => rfl⟩)) rfl (neW_nil _ _)
theorem b_step {found : List Int} {e m back met : Int} {g h : Option O} (hl : found.length < 1000) : ∃ g' h', bBody (BE days today keeps found (some (.w (.int e))) (some (.w (.int m))) (some (.w (.int back))) (some (.w (.int met))) g h) st =
    .ok (.nx (BE days today keeps (found ++ (if (days.filter fun d => decide (back - e ≤ d) && decide (d < back)).isEmpty = true then [] else [minI (days.filter fun d => decide (back - e ≤ d) && decide (d < back))])) (some (.w (.int e))) (some (.w (.int m))) (some (.w (.int (back - e))))
      (some (.w (.int (if (days.filter fun d => decide (back - e ≤ d) && decide (d < back)).isEmpty = true then met else met + 1)))) g' h')) st := by
  have hL : found.length < LIM := by show found.length < 16777216; omega
  generalize hs : (days.filter fun d => decide (back - e ≤ d) && decide (d < back)) = s
  have e5 : s_law_kept_5 (BE days today keeps found (some (.w (.int e))) (some (.w (.int m))) (some (.w (.int back))) (some (.w (.int met))) g h) st =
      .ok (.nx (BE days today keeps found (some (.w (.int e))) (some (.w (.int m))) (some (.w (.int back))) (some (.w (.int met))) (some (.w (.lst (s.map .int)))) h)) st := by
    rw [← hs]
    refine asg_ok (frzL_ok (comp_ints days (fun d => decide (back - e ≤ d) && decide (d < back)) .int rfl fun x hx => ⟨_, rfl, ?_, fun _ => rfl⟩))
    refine tst_ok ?_
    by_cases hx : back - e ≤ x
    · simp [chn_, bin, var_, subW, leW, ltW, BE, hx, wipeE]
    · simp [chn_, bin, var_, subW, leW, ltW, BE, hx, wipeE]
  have e9 : ∀ fo d, s_law_kept_9 (BE days today keeps fo (some (.w (.int e))) (some (.w (.int m))) (some (.w (.int back))) d (some (.w (.lst (s.map .int)))) h) st = .ok (.nx (BE days today keeps fo (some (.w (.int e))) (some (.w (.int m))) (some (.w (.int (back - e)))) d (some (.w (.lst (s.map .int)))) h)) st := fun fo d => asg_ok rfl
  refine ⟨_, h, seq_ok e5 (seq_ok (st1 := st) ?_ (e9 _ _))⟩
  have t6 : tst_ (bin neW (var_ 8) (lst_ (nil_))) (BE days today keeps found (some (.w (.int e))) (some (.w (.int m))) (some (.w (.int back))) (some (.w (.int met))) (some (.w (.lst (s.map .int)))) h) st = .ok (!s.isEmpty) st :=
    tst_ok (bin_ok (x := .lst (s.map .int)) (y := .lst []) (st1 := st) (st2 := st) rfl rfl (neW_nil _ _))
  unfold s_law_kept_6
  cases s with
  | nil =>
    refine if_f t6 ?_
    simp [skip_]
  | cons x xs =>
    refine if_t t6 (seq_ok (env1 := BE days today keeps (found ++ [minI (x :: xs)]) (some (.w (.int e))) (some (.w (.int m))) (some (.w (.int back))) (some (.w (.int met))) (some (.w (.lst ((x :: xs).map .int)))) h) (st1 := st) ?_ (asg_ok (w := .int (met + 1)) rfl))
    have e7 : un minW (var_ 8) (BE days today keeps found (some (.w (.int e))) (some (.w (.int m))) (some (.w (.int back))) (some (.w (.int met))) (some (.w (.lst ((x :: xs).map .int)))) h) st = .ok (.int (minI (x :: xs))) st := by
      refine un_ok (x := .lst ((x :: xs).map .int)) (st1 := st) rfl ?_
      unfold minW
      simp only [intsOf_map]
    unfold s_law_kept_7 app_
    rw [e7]
    simp [BE, hL]
theorem b_loop {p : Int × Int} (hp : KOk p) (found : List Int) (hf : found.length < 500) : ∀ (k : Nat) (i : Nat) (g h : Option O), (∀ d ∈ days, nm today p.1 d < (i : Int) + k) → (((Sx today p.1 days).filter fun x => decide (x < (i : Int))).length : Int) ≤ p.2 →
    ∃ c d g' h', whl_ bTest bBody (BE days today keeps (found ++ (((Sx today p.1 days).filter fun x => decide (x < (i : Int))).map (mn today p.1 days))) (some (.w (.int p.1))) (some (.w (.int p.2))) (some (.w (.int (today + 1 - i * p.1)))) (some (.w (.int ((Sx today p.1 days).filter fun x => decide (x < (i : Int))).length))) g h) st =
      .ok (.nx (BE days today keeps (found ++ Lx today days p) (some (.w (.int p.1))) (some (.w (.int p.2))) c d g' h')) st := by
  intro k
  have he := hp.e1
  have hm2 := hp.m2
  have hS := S_lt today p.1 days
  induction k with
  | zero =>
    intro i g h hk hm
    have e0 : (Sx today p.1 days).filter (fun x => decide (x < (i : Int))) = Sx today p.1 days := by
      rw [List.filter_eq_self]
      intro x hx
      obtain ⟨d, hd, rfl⟩ := mem_S.mp hx
      have := hk d hd
      simp only [decide_eq_true_eq]; omega
    have hno : (days.filter fun d => decide (d < today + 1 - i * p.1)) = [] := by
      rw [List.filter_eq_nil_iff]
      intro d hd
      have := hk d hd
      have h2 : ¬ (i : Int) ≤ nm today p.1 d := by omega
      rw [nm_ge he] at h2
      simp only [decide_eq_true_eq]; omega
    rw [e0] at hm ⊢
    have eL : Lx today days p = (Sx today p.1 days).map (mn today p.1 days) := by
      unfold Lx
      rw [List.take_of_length_le (by omega)]
    rw [eL]
    refine ⟨_, _, g, h, whl_stop ?_⟩
    by_cases hlt : ((Sx today p.1 days).length : Int) < p.2
    · refine and_t (st1 := st) (tst_ok (bin_ok (x := .int (Sx today p.1 days).length) (y := .int p.2) (st1 := st) (st2 := st) rfl rfl (by simp [ltW, hlt]))) (tst_ok ?_)
      rw [b_any, hno]; rfl
    · exact and_f (tst_ok (bin_ok (x := .int (Sx today p.1 days).length) (y := .int p.2) (st1 := st) (st2 := st) rfl rfl (by simp [ltW, hlt])))
  | succ k ih =>
    intro i g h hk hm
    by_cases hlt : (((Sx today p.1 days).filter fun x => decide (x < (i : Int))).length : Int) < p.2
    · by_cases hno : (days.filter fun d => decide (d < today + 1 - i * p.1)) = []
      · -- no day is left
        have e0 : (Sx today p.1 days).filter (fun x => decide (x < (i : Int))) = Sx today p.1 days := by
          rw [List.filter_eq_self]
          intro x hx
          obtain ⟨d, hd, rfl⟩ := mem_S.mp hx
          have := List.filter_eq_nil_iff.mp hno d hd
          simp only [decide_eq_true_eq] at this ⊢
          have h2 : ¬ (i : Int) ≤ nm today p.1 d := fun z => by
            have := (nm_ge he).mp z
            omega
          omega
        rw [e0] at hm hlt ⊢
        have eL : Lx today days p = (Sx today p.1 days).map (mn today p.1 days) := by
          unfold Lx
          rw [List.take_of_length_le (by omega)]
        rw [eL]
        refine ⟨_, _, g, h, whl_stop ?_⟩
        refine and_t (st1 := st) (tst_ok (bin_ok (x := .int (Sx today p.1 days).length) (y := .int p.2) (st1 := st) (st2 := st) rfl rfl (by simp [ltW, hlt]))) (tst_ok ?_)
        rw [b_any, hno]; rfl
      · -- a step
        have est : (days.filter fun d => decide (today + 1 - i * p.1 - p.1 ≤ d) && decide (d < today + 1 - i * p.1)) = days.filter fun d => decide (nm today p.1 d = (i : Int)) := by
          refine List.filter_congr fun d _ => ?_
          rw [← Bool.decide_and, decide_eq_decide, nm_eq he]
          omega
        have hemp : (days.filter fun d => decide (nm today p.1 d = (i : Int))).isEmpty = true ↔ ¬ (i : Int) ∈ Sx today p.1 days := by
          rw [List.isEmpty_iff, List.filter_eq_nil_iff, mem_S]
          constructor
          · rintro h1 ⟨d, h2, h3⟩
            exact h1 d h2 (by simpa using h3)
          · intro h1 d h2 h3
            exact h1 ⟨d, h2, by simpa using h3⟩
        have enx := rising_next (Sx today p.1 days) (i : Int) hS
        obtain ⟨g1, h1, e1⟩ := b_step (days := days) (today := today) (keeps := keeps) (st := st) (found := found ++ (((Sx today p.1 days).filter fun x => decide (x < (i : Int))).map (mn today p.1 days))) (e := p.1) (m := p.2) (back := today + 1 - i * p.1) (met := ((Sx today p.1 days).filter fun x => decide (x < (i : Int))).length) (g := g) (h := h) (by
          rw [List.length_append, List.length_map]; omega)
        rw [est] at e1
        have eb : today + 1 - (i : Int) * p.1 - p.1 = today + 1 - ((i + 1 : Nat) : Int) * p.1 := by
          rw [Int.natCast_add, Int.add_mul]
          omega
        have ci : ((i + 1 : Nat) : Int) = (i : Int) + 1 := by omega
        have ef : found ++ (((Sx today p.1 days).filter fun x => decide (x < (i : Int))).map (mn today p.1 days)) ++ (if (days.filter fun d => decide (nm today p.1 d = (i : Int))).isEmpty = true then [] else [minI (days.filter fun d => decide (nm today p.1 d = (i : Int)))]) =
            found ++ (((Sx today p.1 days).filter fun x => decide (x < ((i + 1 : Nat) : Int))).map (mn today p.1 days)) := by
          rw [ci, enx, List.map_append, List.append_assoc]
          congr 2
          by_cases hi : (i : Int) ∈ Sx today p.1 days
          · rw [if_neg (fun z => hemp.mp z hi), if_pos hi]; rfl
          · rw [if_pos (hemp.mpr hi), if_neg hi]; rfl
        have em : (if (days.filter fun d => decide (nm today p.1 d = (i : Int))).isEmpty = true then (((Sx today p.1 days).filter fun x => decide (x < (i : Int))).length : Int) else ((Sx today p.1 days).filter fun x => decide (x < (i : Int))).length + 1) =
            (((Sx today p.1 days).filter fun x => decide (x < ((i + 1 : Nat) : Int))).length : Int) := by
          rw [ci, enx, List.length_append]
          by_cases hi : (i : Int) ∈ Sx today p.1 days
          · rw [if_neg (fun z => hemp.mp z hi), if_pos hi]; simp
          · rw [if_pos (hemp.mpr hi), if_neg hi]; simp
        rw [ef, em, eb] at e1
        obtain ⟨c, d, g', h', e2⟩ := ih (i + 1) g1 h1 (fun d hd => by have := hk d hd; omega) (by
          rw [← em]
          split <;> omega)
        refine ⟨c, d, g', h', whl_go (st1 := st) ?_ e1 e2⟩
        refine and_t (st1 := st) (tst_ok (bin_ok (x := .int ((Sx today p.1 days).filter fun x => decide (x < (i : Int))).length) (y := .int p.2) (st1 := st) (st2 := st) rfl rfl (by simp [ltW, hlt]))) (tst_ok ?_)
        rw [b_any]
        cases hq : (days.filter fun d => decide (d < today + 1 - i * p.1)) with
        | nil => exact absurd hq hno
        | cons _ _ => rfl
    · -- enough
      have eL : Lx today days p = ((Sx today p.1 days).filter fun x => decide (x < (i : Int))).map (mn today p.1 days) := by
        unfold Lx
        have e1 := rising_filter (Sx today p.1 days) (i : Int) hS
        have e2 : p.2.toNat = ((Sx today p.1 days).filter fun x => decide (x < (i : Int))).length := by omega
        rw [e2, ← e1]
      rw [eL]
      exact ⟨_, _, g, h, whl_stop (and_f (tst_ok (bin_ok (x := .int ((Sx today p.1 days).filter fun x => decide (x < (i : Int))).length) (y := .int p.2) (st1 := st) (st2 := st) rfl rfl (by simp [ltW, hlt]))))⟩
theorem b_keeps (hd : ∀ d ∈ days, d ≤ today ∧ today - 1000 ≤ d) : ∀ (ks : List (Int × Int)) (found : List Int) (a b c d g h : Option O), (∀ p ∈ ks, KOk p) → found.length + 6 * ks.length < 400 →
    ∃ a' b' c' d' g' h', forL (bT 2 (bCons (bN 4) (bCons (bN 5) (bNil)))) (seq_ (s_law_kept_3) (s_law_kept_4)) (ks.map pr) (BE days today keeps found a b c d g h) st =
      .ok (.nx (BE days today keeps (found ++ La today days ks) a' b' c' d' g' h')) st
  | [], found, a, b, c, d, g, h, _, _ => ⟨a, b, c, d, g, h, by rw [show La today days [] = [] from rfl, List.append_nil]; rfl⟩
  | p :: ks, found, a, b, c, d, g, h, hk, hl => by
    rw [List.length_cons] at hl
    have hp := hk p List.mem_cons_self
    have he := hp.e1
    have h0 : ∀ d ∈ days, 0 ≤ nm today p.1 d := fun d hq => (nm_ge he).mpr (by have := hd d hq; omega)
    have e0 : (Sx today p.1 days).filter (fun x => decide (x < ((0 : Nat) : Int))) = [] := by
      rw [List.filter_eq_nil_iff]
      intro x hx
      obtain ⟨d, hq, rfl⟩ := mem_S.mp hx
      have := h0 d hq
      simp only [decide_eq_true_eq]; omega
    obtain ⟨c1, d1, g1, h1, e1⟩ := b_loop (days := days) (today := today) (keeps := keeps) (st := st) hp found (by omega) 1001 0 g h (fun d hq => by
      have h2 : ¬ (1001 : Int) ≤ nm today p.1 d := fun z => by
        have := (nm_ge he).mp z
        have := hd d hq
        have : (1001 : Int) * 1 ≤ 1001 * p.1 := Int.mul_le_mul_of_nonneg_left he (by omega)
        omega
      omega) (by rw [e0]; have := hp.m1; simp; omega)
    rw [e0] at e1
    obtain ⟨a', b', c', d', g', h', e2⟩ := b_keeps hd ks (found ++ Lx today days p) (some (.w (.int p.1))) (some (.w (.int p.2))) c1 d1 g1 h1 (fun q hq => hk q (List.mem_cons_of_mem _ hq)) (by
      have h2 := Lx_len (today := today) (days := days) hp
      rw [List.length_append]; omega)
    refine ⟨a', b', c', d', g', h', ?_⟩
    have e3 : La today days (p :: ks) = Lx today days p ++ La today days ks := rfl
    rw [e3, ← List.append_assoc, List.map_cons]
    refine forL_cons_ok rfl (seq_ok (env1 := BE days today keeps found (some (.w (.int p.1))) (some (.w (.int p.2))) (some (.w (.int (today + 1)))) (some (.w (.int 0))) g h) (st1 := st) rfl ?_) e2
    have e4 : BE days today keeps (found ++ List.map (mn today p.1 days) []) (some (.w (.int p.1))) (some (.w (.int p.2))) (some (.w (.int (today + 1 - ((0 : Nat) : Int) * p.1)))) (some (.w (.int (([] : List Int).length : Nat)))) g h = BE days today keeps found (some (.w (.int p.1))) (some (.w (.int p.2))) (some (.w (.int (today + 1)))) (some (.w (.int 0))) g h := by
      simp
    rw [e4] at e1
    exact e1
theorem lawkept_ok (hd : ∀ d ∈ days, d ≤ today ∧ today - 1000 ≤ d) (hk : ∀ p ∈ keeps, KOk p) (hl : keeps.length ≤ 4) : g_law_kept [tI days, .int today, kT keeps] st = .ok (tI (Res today days keeps)) st := by
  obtain ⟨a, b, c, d, g, h, e1⟩ := b_keeps (days := days) (today := today) (keeps := keeps) (st := st) hd keeps [] none none none none none none hk (by simp; omega)
  rw [List.nil_append] at e1
  refine run_rt (seq_ok (env1 := BE days today keeps [] none none none none none none) (st1 := st) rfl (seq_ok (st1 := st) (for_ok rfl e1) ?_))
  have hz : (dst (La today days keeps)).length < 64 := by
    have h1 := length_dst (La today days keeps)
    have h2 := La_len (today := today) (days := days) hk
    omega
  have hc : frzL_ (comp_ (looks_ (look_ 3)) [9] (bN 9) (yes_) (tup_ (cons_ (var_ 9) (cons_ (cst_ (.bl true)) (nil_))))) (BE days today keeps (La today days keeps) a b c d g h) st = .ok (.lst ((La today days keeps).map fun x => .tup [.int x, .bl true])) st := by
    have := comp_ints (fi := looks_ (look_ 3)) (vs := [9]) (b := bN 9) (ft := yes_) (fe := tup_ (cons_ (var_ 9) (cons_ (cst_ (.bl true)) (nil_)))) (env := BE days today keeps (La today days keeps) a b c d g h) (st := st) (La today days keeps) (fun _ => true) (fun x => .tup [.int x, .bl true]) rfl fun x hx => ⟨_, rfl, rfl, fun _ => rfl⟩
    rw [List.filter_eq_self.mpr (fun _ _ => rfl)] at this
    exact frzL_ok this
  refine ret_ok (un_ok (x := .lst ((Res today days keeps).map .int)) (st1 := st) (un_ok (x := .dct (mergeW [] (trues (La today days keeps)))) (st1 := st) ?_ ?_) rfl)
  · unfold frz_ odictP_
    rw [hc]
    simp only [R.ok_bind, pairs_trues]
  · unfold sortedW
    have := keys_trues (La today days keeps) (kvs := []) (ks := []) rfl
    simp only [this]
    rw [if_pos (show (List.foldl dstep [] (La today days keeps)).length < 64 from hz)]
    rfl
end
end Cr.L61
/-! P61c: oldest_kept, the law. -/
namespace Cr
open PySem PySem.Spec PyProof.Rows L2
theorem compL_map {α : Type} {vs : List Nat} {b : Bf} {ft : Tf} {fe : Ef} {env : Env} {st : Store} (enc : α → W) (q : α → Bool) (g : α → W) : ∀ (xs : List α), (∀ x ∈ xs, ∃ env1, b (enc x) (wipeE env vs) = some env1 ∧ ft env1 st = .ok (q x) st ∧ (q x = true → fe env1 st = .ok (g x) st)) →
    compL vs b ft fe env (xs.map enc) st = .ok ((xs.filter q).map g) st
  | [], _ => rfl
  | x :: xs, h => by
    obtain ⟨env1, e1, e2, e3⟩ := h x List.mem_cons_self
    have r := compL_map (vs := vs) (b := b) (ft := ft) (fe := fe) (env := env) (st := st) enc q g xs fun w' hw => h w' (List.mem_cons_of_mem _ hw)
    rw [List.map_cons]
    unfold compL
    cases hp : q x with
    | true => simp [e1, e2, hp, e3 hp, r]
    | false => simp [e1, e2, hp, r]
theorem neW_nilT (xs : List Int) (st : Store) : neW (.tup (xs.map .int)) (.tup []) st = .ok (.bl (!xs.isEmpty)) st := by
  unfold neW
  have f1 : W.fit 60 (.tup (xs.map .int)) = true := by simp only [W.fit]; exact ints_fit _ xs
  have f2 : W.fit 60 (.tup []) = true := by simp [W.fit]
  rw [f1, f2]
  cases xs with
  | nil => simp [W.py, W.pyL, PyData.eqv, PyData.eqvAll]
  | cons x xs => simp [W.py, W.pyL, PyData.eqv, PyData.eqvAll]
/-- a draw within an expression -/
theorem nx {env : Env} {st : Store} {fm : Ef} {m : Int} {i : Nat} (h : WS st) (h1 : var_ i env st = .ok (.ref 0) st) (hm : fm env st = .ok (.int m) st) (h0 : 0 < m) :
    ∃ v st', call_ g_law_next (cons_ (var_ i) (cons_ fm (nil_))) env st = .ok (.int v) st' ∧ 0 ≤ v ∧ v < m ∧ WS st' := by
  obtain ⟨v, st', e, a, b, c⟩ := next_spec h h0
  exact ⟨v, st', call_ok (cons_ok h1 (cons_ok hm rfl)) e, a, b, c⟩
theorem all_enc {α : Type} (enc : α → W) (P : α → Prop) : ∀ ys : List W, (∀ y ∈ ys, ∃ x, y = enc x ∧ P x) → ∃ xs : List α, ys = xs.map enc ∧ ∀ x ∈ xs, P x
  | [], _ => ⟨[], rfl, fun _ h => nomatch h⟩
  | y :: ys, h => by
    obtain ⟨x, e, hx⟩ := h y List.mem_cons_self
    obtain ⟨xs, e2, hxs⟩ := all_enc enc P ys fun z hz => h z (List.mem_cons_of_mem _ hz)
    refine ⟨x :: xs, by rw [e, e2]; rfl, fun z hz => ?_⟩
    rcases List.mem_cons.mp hz with rfl | hz
    · exact hx
    · exact hxs z hz
end Cr
namespace Cr.L61
open PySem PySem.Spec PyProof.Rows L2
def om (p : Int × Int) : Int := p.1 * p.2 - 1
theorem oldest_ok {keeps : List (Int × Int)} {st : Store} (hk : ∀ p ∈ keeps, KOk p) (hl : keeps.length ≤ 10) : g_oldest_kept [kT keeps] st = .ok (.int (maxI (0 :: keeps.map om))) st := by
  have hc : frzL_ (comp_ (looks_ (var_ 0)) [1, 2] (bT 2 (bCons (bN 1) (bCons (bN 2) (bNil)))) (tst_ (bin gtW (var_ 2) (cst_ (.int 0)))) (bin subW (bin mulW (var_ 1) (var_ 2)) (cst_ (.int 1)))) [some (.w (kT keeps)), none, none] st = .ok (.lst (keeps.map fun p => .int (om p))) st := by
    refine frzL_ok (comp_ok (ws := keeps.map pr) (st1 := st) rfl ?_)
    have := compL_map (vs := [1, 2]) (b := bT 2 (bCons (bN 1) (bCons (bN 2) (bNil)))) (ft := tst_ (bin gtW (var_ 2) (cst_ (.int 0)))) (fe := bin subW (bin mulW (var_ 1) (var_ 2)) (cst_ (.int 1))) (env := [some (.w (kT keeps)), none, none]) (st := st) pr (fun _ => true) (fun p => .int (om p)) keeps fun p hp => by
      have h := hk p hp
      refine ⟨[some (.w (kT keeps)), some (.w (.int p.1)), some (.w (.int p.2))], rfl, ?_, fun _ => ?_⟩
      · refine tst_ok (bin_ok (x := .int p.2) (y := .int 0) (st1 := st) (st2 := st) rfl rfl ?_)
        have := h.m1
        simp [gtW]; omega
      · have hs : small p.1 = true := by
          have := h.e1
          have := h.e2
          unfold small
          rw [decide_eq_true_eq]; omega
        simp [bin, var_, cst_, mulW, subW, hs, om]
    rw [List.filter_eq_self.mpr (fun _ _ => rfl)] at this
    exact this
  refine run_rt (ret_ok (un_ok (x := .lst ((0 :: keeps.map om).map .int)) (st1 := st) (bin_ok (x := .lst [.int 0]) (y := .lst (keeps.map fun p => .int (om p))) (st1 := st) (st2 := st) rfl hc ?_) ?_))
  · have hz : [W.int 0].length + (keeps.map fun p => W.int (om p)).length ≤ LIM := by
      rw [List.length_map]
      show 1 + keeps.length ≤ 16777216
      omega
    unfold addW
    simp only []
    rw [if_pos hz, List.map_cons, List.map_map]
    rfl
  · unfold maxW
    simp only [intsOf_map]
def eachL (today : Int) : List Int := (List.range 91).map fun i : Nat => today - 90 + (i : Int)
theorem mem_each {today d : Int} : d ∈ eachL today ↔ today - 90 ≤ d ∧ d ≤ today := by
  unfold eachL
  rw [List.mem_map]
  constructor
  · rintro ⟨i, h, rfl⟩
    rw [List.mem_range] at h
    omega
  · rintro ⟨h1, h2⟩
    exact ⟨(d - (today - 90)).toNat, by rw [List.mem_range]; omega, by omega⟩
theorem Lx_each {today : Int} {p : Int × Int} (hp : KOk p) : Lx today (eachL today) p = (List.range p.2.toNat).map fun j : Nat => today - ((j : Int) * p.1 + p.1) + 1 := by
  have he := hp.e1
  have he2 := hp.e2
  have hm := hp.m2
  have bound : ∀ j : Nat, j < p.2.toNat → 0 ≤ (j : Int) * p.1 ∧ (j : Int) * p.1 ≤ 60 := fun j hj => by
    have h1 : (j : Int) * p.1 ≤ 5 * p.1 := Int.mul_le_mul_of_nonneg_right (by omega) (by omega)
    have h2 : 0 ≤ (j : Int) * p.1 := Int.mul_nonneg (by omega) (by omega)
    omega
  have e1 := rising_take p.2.toNat (Sx today p.1 (eachL today)) 0 (S_lt ..) (fun x hx => by
    obtain ⟨d, hd, rfl⟩ := mem_S.mp hx
    have := mem_each.mp hd
    exact (nm_ge he).mpr (by omega)) (fun j hj => by
    have b := bound j hj
    refine mem_S.mpr ⟨today - (j : Int) * p.1, mem_each.mpr (by omega), ?_⟩
    rw [Int.zero_add]
    exact (nm_eq he).mpr (by omega))
  unfold Lx
  rw [e1, List.map_map]
  refine List.map_congr_left fun j hj => ?_
  have b := bound j (List.mem_range.mp hj)
  show mn today p.1 (eachL today) (0 + (j : Int)) = _
  rw [Int.zero_add]
  unfold mn
  symm
  refine minI_spec (List.mem_filter.mpr ⟨mem_each.mpr (by omega), ?_⟩) fun y hy => ?_
  · rw [decide_eq_true_eq]
    exact (nm_eq he).mpr (by omega)
  · have h1 := (List.mem_filter.mp hy).2
    rw [decide_eq_true_eq, nm_eq he] at h1
    omega
theorem res_head {today : Int} {keeps : List (Int × Int)} (hk : ∀ p ∈ keeps, KOk p) (hne : keeps ≠ []) : ∃ x r, Res today (eachL today) keeps = x :: r ∧ today - x = maxI (0 :: keeps.map om) := by
  have mem : ∀ x, x ∈ dst (La today (eachL today) keeps) ↔ ∃ p ∈ keeps, ∃ j : Nat, j < p.2.toNat ∧ x = today - ((j : Int) * p.1 + p.1) + 1 := fun x => by
    rw [mem_dst]
    unfold La
    rw [List.mem_flatMap]
    constructor
    · rintro ⟨p, hp, h⟩
      rw [Lx_each (hk p hp), List.mem_map] at h
      obtain ⟨j, h1, h2⟩ := h
      exact ⟨p, hp, j, List.mem_range.mp h1, h2.symm⟩
    · rintro ⟨p, hp, j, h1, h2⟩
      refine ⟨p, hp, ?_⟩
      rw [Lx_each (hk p hp), List.mem_map]
      exact ⟨j, List.mem_range.mpr h1, h2.symm⟩
  have last : ∀ p ∈ keeps, today - om p ∈ dst (La today (eachL today) keeps) := fun p hp => by
    have h := hk p hp
    have hm := h.m1
    refine (mem _).mpr ⟨p, hp, p.2.toNat - 1, by omega, ?_⟩
    have e : ((p.2.toNat - 1 : Nat) : Int) = p.2 - 1 := by omega
    rw [e, Int.sub_mul, Int.one_mul]
    unfold om
    have := Int.mul_comm p.1 p.2
    omega
  cases hr : Res today (eachL today) keeps with
  | nil =>
    obtain ⟨p, hp⟩ := List.exists_mem_of_ne_nil keeps hne
    have := mem_sort.mpr (last p hp)
    unfold Res at hr
    rw [hr] at this
    cases this
  | cons x r =>
    obtain ⟨h1, h2⟩ := sort_head hr
    refine ⟨x, r, rfl, ?_⟩
    obtain ⟨p, hp, j, hj, hx⟩ := (mem x).mp h1
    have hP := hk p hp
    have he := hP.e1
    have hle := h2 _ (last p hp)
    have h3 : ((j : Int) + 1) * p.1 ≤ p.2 * p.1 := Int.mul_le_mul_of_nonneg_right (by omega) (by omega)
    rw [Int.add_mul, Int.one_mul] at h3
    have h4 := Int.mul_comm p.1 p.2
    have e : today - x = om p := by
      unfold om at hle ⊢
      omega
    rw [e]
    refine maxI_spec (List.mem_cons_of_mem _ (List.mem_map.mpr ⟨p, hp, rfl⟩)) fun y hy => ?_
    rcases List.mem_cons.mp hy with rfl | hy
    · have h5 : 0 ≤ (j : Int) * p.1 := Int.mul_nonneg (by omega) (by omega)
      unfold om
      omega
    · obtain ⟨q, hq, rfl⟩ := List.mem_map.mp hy
      have := h2 _ (last q hq)
      omega
theorem ix_head (x : Int) (r : List Int) (st : Store) : ixW (tI (x :: r)) (.int 0) st = .ok (.int x) st := by
  have e : L2.atI ((x :: r).map W.int) 0 = some (.int x) := by
    have e1 : L2.ixN ((x :: r).map W.int).length 0 = some 0 := by
      unfold L2.ixN
      rw [List.length_map, List.length_cons, if_pos (Int.le_refl _), if_pos (by omega)]
      rfl
    unfold L2.atI
    rw [e1]
    rfl
  unfold ixW tI
  simp only [e]
/-! ### the law -/
theorem res_fine {today : Int} {days : List Int} {keeps : List (Int × Int)} (hd : ∀ d ∈ days, -1000 ≤ d ∧ d ≤ 1000) (hk : ∀ p ∈ keeps, KOk p) (hl : keeps.length ≤ 10) : (∀ x ∈ Res today days keeps, -1000 ≤ x ∧ x ≤ 1000) ∧ Fine (tI (Res today days keeps)) := by
  have h1 : ∀ x ∈ Res today days keeps, -1000 ≤ x ∧ x ≤ 1000 := fun x hx => by
    have := mem_dst.mp (mem_sort.mp hx)
    unfold La at this
    obtain ⟨p, hp, h⟩ := List.mem_flatMap.mp this
    unfold Lx at h
    obtain ⟨n, hn, rfl⟩ := List.mem_map.mp h
    obtain ⟨d, hd', hnm⟩ := mem_S.mp (List.mem_of_mem_take hn)
    have hne : days.filter (fun d => decide (nm today p.1 d = n)) ≠ [] := by
      intro z
      have : d ∈ days.filter (fun d => decide (nm today p.1 d = n)) := List.mem_filter.mpr ⟨hd', by simpa using hnm⟩
      rw [z] at this; cases this
    exact hd _ (List.mem_filter.mp (minI_mem hne)).1
  refine ⟨h1, fine_tup (fun n hn => ?_) ?_⟩
  · have := h1 n hn
    have e : (10 : Nat) ^ 12 = 1000000000000 := by decide
    rw [e]; omega
  · unfold Res
    rw [sortI_length]
    have a := length_dst (La today days keeps)
    have b := La_len (today := today) (days := days) hk
    omega
def LE (ns : List Int) (a b c d e f g h : Option O) : Env := [some (.w (.scr ns)), some (.w (.ref 0)), a, b, c, d, e, f, g, h]
section
variable {ns : List Int} {a b c d e f g h : Option O} {st : Store}
theorem l3 (hw : WS st) : ∃ t st', s_law_3 (LE ns a b c d e f g h) st = .ok (.nx (LE ns a (some (.w (.int t))) c d e f g h)) st' ∧ 1 ≤ t ∧ WS st' := by
  obtain ⟨v, st', e1, h1, h2, h3⟩ := nx (i := 1) (env := LE ns a b c d e f g h) (fm := cst_ (.int 5)) (m := 5) hw rfl rfl (by omega)
  exact ⟨1 + v, st', asg_ok (bin_ok (x := .int 1) (st1 := st) rfl e1 rfl), by omega, h3⟩
def zs : List Int := (List.range 45).map fun i : Nat => -25 + (i : Int)
theorem zs_lt : zs.Pairwise (· < ·) := by decide +kernel
theorem zs_mem {x : Int} (h : x ∈ zs) : -25 ≤ x ∧ x ≤ 20 := by
  obtain ⟨i, h1, rfl⟩ := List.mem_map.mp h
  rw [List.mem_range] at h1
  omega
theorem l4 {t : Int} (ht : 1 ≤ t) (hw : WS st) : ∃ xs st', s_law_4 (LE ns a (some (.w (.int t))) c d e f g h) st = .ok (.nx (LE ns a (some (.w (.int t))) (some (.w (tI xs))) d e f g h)) st' ∧ List.Sublist xs zs ∧ WS st' := by
  obtain ⟨ys, st', e1, h1, h2⟩ := compL_sub (vs := [8]) (b := bN 8) (ft := tst_ (bin eqW (call_ g_law_next (cons_ (var_ 1) (cons_ (var_ 3) (nil_)))) (cst_ (.int 0)))) (fe := var_ 8) (env := LE ns a (some (.w (.int t))) c d e f g h) WS (zs.map .int) st hw fun w _ s hs => by
    obtain ⟨v, st', e1, h1, h2, h3⟩ := nx (i := 1) (env := LE ns a (some (.w (.int t))) c d e f (some (.w w)) h) (fm := var_ 3) (m := t) hs rfl rfl (by omega)
    exact ⟨LE ns a (some (.w (.int t))) c d e f (some (.w w)) h, _, st', rfl, tst_ok (bin_ok (y := .int 0) e1 rfl rfl), h3, rfl⟩
  obtain ⟨xs, hx, rfl⟩ := List.sublist_map_iff.mp h2
  refine ⟨xs, st', asg_ok (un_ok (frzL_ok (comp_ok (st1 := st) ?_ e1)) rfl), hx, h1⟩
  have hz : rgOk (-25) 20 = true := rgOk_small (by omega) (by omega) (by omega) (by omega)
  have := rng2_ok (fa := cons_ (neg_ (cst_ (.int 25))) (cons_ (cst_ (.int 20)) (nil_))) (env := LE ns a (some (.w (.int t))) c d e f g h) (st := st) (st1 := st) (a := -25) (b := 20) rfl hz
  rw [this]
  rfl
theorem l5 {xs : List Int} (hx : List.Sublist xs zs) (hw : WS st) : ∃ t st', s_law_5 (LE ns a b (some (.w (tI xs))) d e f g h) st = .ok (.nx (LE ns a b (some (.w (tI xs))) (some (.w (.int t))) e f g h)) st' ∧ (∀ x ∈ xs, x ≤ t) ∧ -30 ≤ t ∧ t ≤ 60 ∧ WS st' := by
  obtain ⟨v1, st1, e1, a1, b1, w1⟩ := nx (i := 1) (env := LE ns a b (some (.w (tI xs))) d e f g h) (fm := cst_ (.int 20)) (m := 20) hw rfl rfl (by omega)
  obtain ⟨v2, st2, e2, a2, b2, w2⟩ := nx (i := 1) (env := LE ns a b (some (.w (tI xs))) d e f g h) (fm := cst_ (.int 4)) (m := 4) w1 rfl rfl (by omega)
  have hlast : ∃ z : Int, ife_ (tst_ (bin neW (var_ 4) (tup_ (nil_)))) (bin ixW (var_ 4) (neg_ (cst_ (.int 1)))) (cst_ (.int 0)) (LE ns a b (some (.w (tI xs))) d e f g h) st = .ok (.int z) st ∧ (∀ x ∈ xs, x ≤ z) ∧ -25 ≤ z ∧ z ≤ 20 := by
    have ht : tst_ (bin neW (var_ 4) (tup_ (nil_))) (LE ns a b (some (.w (tI xs))) d e f g h) st = .ok (!xs.isEmpty) st := tst_ok (bin_ok (x := tI xs) (y := .tup []) (st1 := st) (st2 := st) rfl rfl (neW_nilT xs st))
    rcases List.eq_nil_or_concat xs with rfl | ⟨r, l, rfl⟩
    · refine ⟨0, ?_, (fun _ h => nomatch h), by omega, by omega⟩
      unfold ife_
      rw [ht]
      rfl
    · refine ⟨l, ?_, fun x hx' => ?_, ?_⟩
      · unfold ife_
        rw [ht]
        have e0 : (!(r.concat l).isEmpty) = true := by simp
        rw [e0]
        show bin ixW (var_ 4) (neg_ (cst_ (.int 1))) (LE ns a b (some (.w (tI (r.concat l)))) d e f g h) st = _
        refine bin_ok (x := tI (r.concat l)) (y := .int (-1)) (st1 := st) (st2 := st) rfl rfl ?_
        have hat : L2.atI ((r.concat l).map W.int) (-1) = some (.int l) := by
          have e1 : L2.ixN ((r.concat l).map W.int).length (-1) = some r.length := by
            unfold L2.ixN
            rw [List.length_map, List.length_concat, if_neg (by omega), if_pos (by omega)]
            congr 1
            omega
          unfold L2.atI
          rw [e1]
          show ((r.concat l).map W.int)[r.length]? = _
          rw [List.getElem?_map, List.concat_eq_append, List.getElem?_append_right (Nat.le_refl _), Nat.sub_self]
          rfl
        unfold ixW tI
        simp only [hat]
      · have hp := zs_lt.sublist hx
        rw [List.concat_eq_append, List.pairwise_append] at hp
        rw [List.concat_eq_append, List.mem_append] at hx'
        rcases hx' with hx' | hx'
        · have := hp.2.2 x hx' l (by simp)
          omega
        · rw [List.mem_singleton.mp hx']; exact Int.le_refl _
      · have := zs_mem (hx.subset (show l ∈ r.concat l by rw [List.concat_eq_append]; simp))
        omega
  obtain ⟨z, e0, h1, h2, h3⟩ := hlast
  have hl : ∃ q : Int, bin ixW (lst_ (cons_ (cst_ (.int 0)) (cons_ (cst_ (.int 0)) (cons_ (cst_ (.int 1)) (cons_ (call_ g_law_next (cons_ (var_ 1) (cons_ (cst_ (.int 20)) (nil_)))) (nil_)))))) (call_ g_law_next (cons_ (var_ 1) (cons_ (cst_ (.int 4)) (nil_)))) (LE ns a b (some (.w (tI xs))) d e f g h) st = .ok (.int q) st2 ∧ 0 ≤ q ∧ q ≤ 20 := by
    have el : lst_ (cons_ (cst_ (.int 0)) (cons_ (cst_ (.int 0)) (cons_ (cst_ (.int 1)) (cons_ (call_ g_law_next (cons_ (var_ 1) (cons_ (cst_ (.int 20)) (nil_)))) (nil_))))) (LE ns a b (some (.w (tI xs))) d e f g h) st = .ok (.lst [.int 0, .int 0, .int 1, .int v1]) st1 :=
      lst_ok (cons_ok (x := .int 0) (st1 := st) rfl (cons_ok (x := .int 0) (st1 := st) rfl (cons_ok (x := .int 1) (st1 := st) rfl (cons_ok e1 rfl)))) (by show 4 ≤ 16777216; omega)
    have h4 : v2 = 0 ∨ v2 = 1 ∨ v2 = 2 ∨ v2 = 3 := by omega
    rcases h4 with rfl | rfl | rfl | rfl
    · exact ⟨0, bin_ok el e2 rfl, by omega, by omega⟩
    · exact ⟨0, bin_ok el e2 rfl, by omega, by omega⟩
    · exact ⟨1, bin_ok el e2 rfl, by omega, by omega⟩
    · exact ⟨v1, bin_ok el e2 rfl, by omega, by omega⟩
  obtain ⟨q, e3, h5, h6⟩ := hl
  exact ⟨z + q, st2, asg_ok (bin_ok e0 e3 rfl), fun x hx => by have := h1 x hx; omega, by omega, by omega, w2⟩
theorem l6 (hw : WS st) : ∃ ks st', s_law_6 (LE ns a b c d e f g h) st = .ok (.nx (LE ns a b c d (some (.w (kT ks))) f g h)) st' ∧ (∀ p ∈ ks, KOk p) ∧ ks.length ≤ 3 ∧ WS st' := by
  obtain ⟨v, st1, e1, a1, b1, w1⟩ := nx (i := 1) (env := LE ns a b c d e f g h) (fm := cst_ (.int 4)) (m := 4) hw rfl rfl (by omega)
  obtain ⟨ys, st', e2, h1, h2, h3⟩ := compL_full (vs := [9]) (b := bN 9) (fe := tup_ (cons_ (bin addW (cst_ (.int 1)) (call_ g_law_next (cons_ (var_ 1) (cons_ (cst_ (.int 12)) (nil_))))) (cons_ (bin addW (cst_ (.int 1)) (call_ g_law_next (cons_ (var_ 1) (cons_ (cst_ (.int 6)) (nil_))))) (nil_)))) (env := LE ns a b c d e f g h) WS (fun y => ∃ p, y = pr p ∧ KOk p) (rgW 0 v.toNat) st1 w1 fun w _ s hs => by
    obtain ⟨x, s1, f1, a1, b1, w1⟩ := nx (i := 1) (env := LE ns a b c d e f g (some (.w w))) (fm := cst_ (.int 12)) (m := 12) hs rfl rfl (by omega)
    obtain ⟨y, s2, f2, a2, b2, w2⟩ := nx (i := 1) (env := LE ns a b c d e f g (some (.w w))) (fm := cst_ (.int 6)) (m := 6) w1 rfl rfl (by omega)
    refine ⟨LE ns a b c d e f g (some (.w w)), rfl, pr (1 + x, 1 + y), s2, ?_, w2, _, rfl, ⟨by show 1 ≤ 1 + x; omega, by show 1 + x ≤ 12; omega, by show 1 ≤ 1 + y; omega, by show 1 + y ≤ 6; omega⟩⟩
    exact tup_ok (cons_ok (x := .int (1 + x)) (bin_ok (x := .int 1) (st1 := s) rfl f1 rfl) (cons_ok (x := .int (1 + y)) (bin_ok (x := .int 1) (st1 := s1) rfl f2 rfl) rfl)) (by show 2 ≤ 16777216; omega)
  obtain ⟨ks, rfl, hk⟩ := all_enc pr KOk ys h3
  rw [List.length_map, rgW_length] at h2
  refine ⟨ks, st', asg_ok (un_ok (frzL_ok (comp_ok (st1 := st1) (rng1_ok (n := v) (cons_ok e1 rfl) (rgOk_small (by omega) (by omega) (by omega) (by omega))) e2)) rfl), hk, by omega, h1⟩
theorem l7 {xs : List Int} {t : Int} {ks : List (Int × Int)} (hx : List.Sublist xs zs) (h1 : ∀ x ∈ xs, x ≤ t) (h2 : -30 ≤ t) (h3 : t ≤ 60) (hk : ∀ p ∈ ks, KOk p) (hl : ks.length ≤ 3) :
    s_law_7 (LE ns a b (some (.w (tI xs))) (some (.w (.int t))) (some (.w (kT ks))) f g h) st = .ok (.nx (LE ns a b (some (.w (tI xs))) (some (.w (.int t))) (some (.w (kT ks))) f g h)) st := by
  have hlen : xs.length < 64 := by
    have := hx.length_le
    have e : zs.length = 45 := by decide +kernel
    omega
  have hb : ∀ d ∈ xs, d ≤ t ∧ t - 1000 ≤ d := fun d hd => ⟨h1 d hd, by have := zs_mem (hx.subset hd); omega⟩
  have hf := (res_fine (today := t) (days := xs) (keeps := ks) (fun d hd => by have := zs_mem (hx.subset hd); omega) hk (by omega)).2
  refine if_f (st1 := st) ?_ rfl
  refine not_ok (b := true) (tst_ok (call_ok (ws := [tI (Res t xs ks), tI (Res t xs ks)]) (st1 := st) (cons_ok (st1 := st) (call_ok (ws := [tI xs, .int t, kT ks]) (st1 := st) rfl (kept_ok hlen hk (by omega))) (cons_ok (st1 := st) (call_ok (ws := [tI xs, .int t, kT ks]) (st1 := st) rfl (lawkept_ok hb hk (by omega))) rfl)) (same_spec hf st)))
theorem l9 {ks : List (Int × Int)} (hk : ∀ p ∈ ks, KOk p) (hl : ks.length ≤ 3) (hw : WS st) : ∃ ks' st', s_law_9 (LE ns a b c d (some (.w (kT ks))) f g h) st = .ok (.nx (LE ns a b c d (some (.w (kT ks'))) f g h)) st' ∧ (∀ p ∈ ks', KOk p) ∧ ks'.length ≤ 4 ∧ ks' ≠ [] ∧ WS st' := by
  obtain ⟨x, s1, f1, a1, b1, w1⟩ := nx (i := 1) (env := LE ns a b c d (some (.w (kT ks))) f g h) (fm := cst_ (.int 9)) (m := 9) hw rfl rfl (by omega)
  obtain ⟨y, s2, f2, a2, b2, w2⟩ := nx (i := 1) (env := LE ns a b c d (some (.w (kT ks))) f g h) (fm := cst_ (.int 5)) (m := 5) w1 rfl rfl (by omega)
  refine ⟨ks ++ [(1 + x, 1 + y)], s2, ?_, fun p hp => ?_, by rw [List.length_append]; simp; omega, by simp, w2⟩
  · refine asg_ok (bin_ok (x := kT ks) (y := .tup [pr (1 + x, 1 + y)]) (st1 := st) (st2 := s2) rfl ?_ ?_)
    · exact tup_ok (cons_ok (tup_ok (cons_ok (x := .int (1 + x)) (bin_ok (x := .int 1) (st1 := st) rfl f1 rfl) (cons_ok (x := .int (1 + y)) (bin_ok (x := .int 1) (st1 := s1) rfl f2 rfl) rfl)) (by show 2 ≤ 16777216; omega)) rfl) (by show 1 ≤ 16777216; omega)
    · have hz : (ks.map pr).length + [pr (1 + x, 1 + y)].length ≤ LIM := by
        rw [List.length_map]
        show ks.length + 1 ≤ 16777216
        omega
      unfold kT addW
      simp only []
      rw [if_pos hz, List.map_append]
      rfl
  · rcases List.mem_append.mp hp with hp | hp
    · exact hk p hp
    · rw [List.mem_singleton.mp hp]
      exact ⟨by show 1 ≤ 1 + x; omega, by show 1 + x ≤ 12; omega, by show 1 ≤ 1 + y; omega, by show 1 + y ≤ 6; omega⟩
theorem l10 {t : Int} (h2 : -30 ≤ t) (h3 : t ≤ 60) : s_law_10 (LE ns a b c (some (.w (.int t))) e f g h) st = .ok (.nx (LE ns a b c (some (.w (.int t))) e (some (.w (tI (eachL t)))) g h)) st := by
  refine asg_ok ?_
  have hz : rgOk (t - 90) (t + 1) = true := rgOk_small (by omega) (by omega) (by omega) (by omega)
  unfold trg2_
  show (if rgOk (t - 90) (t + 1) = true then R.ok (W.tup (rgW (t - 90) (t + 1 - (t - 90)).toNat)) st else R.no) = _
  rw [if_pos hz, show (t + 1 - (t - 90)).toNat = 91 by omega]
  unfold tI eachL rgW
  rw [List.map_map]
  rfl
theorem l11 {t : Int} {ks : List (Int × Int)} (h2 : -30 ≤ t) (h3 : t ≤ 60) (hk : ∀ p ∈ ks, KOk p) (hl : ks.length ≤ 4) (hne : ks ≠ []) :
    s_law_11 (LE ns a b c (some (.w (.int t))) (some (.w (kT ks))) (some (.w (tI (eachL t)))) g h) st = .ok (.nx (LE ns a b c (some (.w (.int t))) (some (.w (kT ks))) (some (.w (tI (eachL t)))) g h)) st := by
  obtain ⟨x, r, e1, e2⟩ := res_head (today := t) hk hne
  have hx := (res_fine (today := t) (days := eachL t) (keeps := ks) (fun d hd => by have := mem_each.mp hd; omega) hk (by omega)).1 x (by rw [e1]; exact List.mem_cons_self)
  have hb : ∀ d ∈ eachL t, d ≤ t ∧ t - 1000 ≤ d := fun d hd => by have := mem_each.mp hd; omega
  have hl2 := lawkept_ok (days := eachL t) (today := t) (keeps := ks) (st := st) hb hk hl
  rw [e1] at hl2
  refine if_f (st1 := st) ?_ rfl
  refine not_ok (b := true) (tst_ok (call_ok (ws := [.int (t - x), .int (t - x)]) (st1 := st) (cons_ok (st1 := st) (call_ok (ws := [kT ks]) (st1 := st) rfl (by rw [e2]; exact oldest_ok hk (by omega))) (cons_ok (st1 := st) (bin_ok (x := .int t) (y := .int x) (st1 := st) (st2 := st) rfl (bin_ok (x := tI (x :: r)) (y := .int 0) (st1 := st) (st2 := st) (call_ok (ws := [tI (eachL t), .int t, kT ks]) (st1 := st) rfl hl2) rfl (ix_head x r st)) rfl) rfl)) (same_spec (fine_int ?_) st)))
  have e : (10 : Nat) ^ 12 = 1000000000000 := by decide
  rw [e]; omega
end
theorem law_true (ns : List Int) (hl : ns.length ≤ 63) : ∃ st', g_law [.scr ns] [] = .ok (.bl true) st' := by
  obtain ⟨ds, e0⟩ := draws_spec ns hl 200 (by omega) (by omega) []
  have e1 : s_law_1 [some (.w (.scr ns)), none, none, none, none, none, none, none, none, none] [] = .ok (.nx (LE ns none none none none none none none none)) (stW ds 0) := by
    refine asg_ok ?_
    unfold sd2_
    have : call_ g_law_draws (cons_ (var_ 0) (cons_ (cst_ (.int 200)) (nil_))) [some (.w (.scr ns)), none, none, none, none, none, none, none, none, none] [] = .ok (.lst (ds.map .int)) [] := call_ok (ws := [.scr ns, .int 200]) (st1 := []) rfl e0
    rw [this]
    rfl
  obtain ⟨env', st', e2, a, b, c, d, e, f, g, h, rfl, hw⟩ := forL_all (b := bN 2) (f := seq_ (s_law_3) (seq_ (s_law_4) (seq_ (s_law_5) (seq_ (s_law_6) (seq_ (s_law_7) (seq_ (s_law_9) (seq_ (s_law_10) (s_law_11)))))))) (fun _ env st => ∃ a b c d e f g h, env = LE ns a b c d e f g h ∧ WS st) (rgW 0 4)
    (LE ns none none none none none none none none) (stW ds 0) ⟨_, _, _, _, _, _, _, _, rfl, ds, 0, rfl, by omega⟩ (fun i w _ env st ⟨a, b, c, d, e, f, g, h, h1, hw⟩ => by
      subst h1
      obtain ⟨t, s3, e3, ht, w3⟩ := l3 (ns := ns) (a := some (.w w)) (b := b) (c := c) (d := d) (e := e) (f := f) (g := g) (h := h) hw
      obtain ⟨xs, s4, e4, hx, w4⟩ := l4 (ns := ns) (a := some (.w w)) (c := c) (d := d) (e := e) (f := f) (g := g) (h := h) ht w3
      obtain ⟨td, s5, e5, k1, k2, k3, w5⟩ := l5 (ns := ns) (a := some (.w w)) (b := some (.w (.int t))) (d := d) (e := e) (f := f) (g := g) (h := h) hx w4
      obtain ⟨ks, s6, e6, hk, hkl, w6⟩ := l6 (ns := ns) (a := some (.w w)) (b := some (.w (.int t))) (c := some (.w (tI xs))) (d := some (.w (.int td))) (e := e) (f := f) (g := g) (h := h) w5
      have e7 := l7 (ns := ns) (a := some (.w w)) (b := some (.w (.int t))) (f := f) (g := g) (h := h) (st := s6) hx k1 k2 k3 hk hkl
      obtain ⟨ks2, s9, e9, hk2, hkl2, hne, w9⟩ := l9 (ns := ns) (a := some (.w w)) (b := some (.w (.int t))) (c := some (.w (tI xs))) (d := some (.w (.int td))) (f := f) (g := g) (h := h) hk hkl w6
      have e10 := l10 (ns := ns) (a := some (.w w)) (b := some (.w (.int t))) (c := some (.w (tI xs))) (e := some (.w (kT ks2))) (f := f) (g := g) (h := h) (st := s9) k2 k3
      have e11 := l11 (ns := ns) (a := some (.w w)) (b := some (.w (.int t))) (c := some (.w (tI xs))) (g := g) (h := h) (st := s9) k2 k3 hk2 hkl2 hne
      exact ⟨_, _, s9, rfl, seq_ok e3 (seq_ok e4 (seq_ok e5 (seq_ok e6 (seq_ok e7 (seq_ok e9 (seq_ok e10 e11)))))), _, _, _, _, _, _, _, _, rfl, w9⟩)
  refine ⟨st', run_rt (seq_ok e1 (seq_ok (for_ok (rng1_ok (n := 4) rfl (rgOk_small (by omega) (by omega) (by omega) (by omega))) e2) rfl))⟩
end Cr.L61
namespace Cr.L61
open PySem PySem.Spec PyProof.Rows L2 Cr
/-! the walk -/
def topOf (i : Nat) : Stmt := PySem.Challenge.pw_daysworn_k61_backups_that_are_kept.main.body.getD i (.Pass ⟨0, 0, 0, 0⟩)
structure Txt (mg : Str → Option Value) : Prop where
  b_abs : mg "abs" = none
  b_dict : mg "dict" = none
  b_int : mg "int" = none
  b_len : mg "len" = none
  b_max : mg "max" = none
  b_min : mg "min" = none
  b_range : mg "range" = none
  b_repr : mg "repr" = none
  b_sorted : mg "sorted" = none
  b_tuple : mg "tuple" = none
section
variable {P : Program} {w : World} {K : PySem.W.Frag} {mg : Str → Option Value} {base : Heap}
abbrev sx_law_draws : Stmt := topOf 5
abbrev nm_law_draws : List Str := ["script", "many", "draws", "mixed", "k", "cell", "rest", "turn"]
theorem sc_law_draws : FnScope ["script", "many", "draws", "mixed", "k", "cell", "rest", "turn"] ["script", "many"] (defScope sx_law_draws) := ⟨rfl, rfl, rfl, by decide +kernel, rfl, by decide +kernel, by decide +kernel⟩
theorem ok_law_draws {f : Addr} {fd : FuncData} (F : Fun K "_law_draws" "_law_draws" sx_law_draws f fd) (T : Txt mg)  : FnG P w K mg base CX0 1 f fd ["script", "many"] (spF K 2 g_law_draws) := by
  refine d_ok F sc_law_draws fun cdv A outer s H E hr hg => ?_
  have nd := sc_law_draws.nd
  exact (ss_cons (s_own (m := true) (i := 2) nd rfl (.inl rfl) (n_lst a_nil))
    (ss_cons (s_asg (m := true) (i := 3) nd rfl (.inl rfl) e_int)
    (ss_cons (s_for (m := true) PassesOwn.never rfl (i_rng1 rfl T.b_range (a_cons (e_b1 call_len b_len rfl T.b_len bt_len (o_e (e_var (i := 0) rfl (.inl rfl)))) a_nil)) (g_n (i := 4) nd rfl (.inl rfl))
    (ss_cons (s_asg (m := true) (i := 5) nd rfl (.inl rfl) (e_b1 call_abs b_abs rfl T.b_abs bt_abs (o_e (e_bt1 call_int1 b_int rfl T.b_int bt_int (o_e (e_ix (hu1 hr) (o_e (e_var (i := 0) rfl (.inl rfl))) (o_e (e_var (i := 4) rfl (.inl rfl)))))))))
    (ss_cons (s_asg (m := true) (i := 3) nd rfl (.inl rfl) (e_mod (e_bt1 call_int1 b_int rfl T.b_int bt_int (o_e (e_add (e_add (e_mul (e_var (i := 3) rfl (.inl rfl)) e_int) (e_mod (e_var (i := 5) rfl (.inl rfl)) e_int)) (e_var (i := 4) rfl (.inl rfl))))) e_int))
    (ss_cons (s_asg (m := true) (i := 6) nd rfl (.inl rfl) e_int)
    (ss_cons (s_if (m := true) (t_cmp op_ge v_ge (o_e (e_var (i := 5) rfl (.inl rfl))) (o_e (e_pow e_int e_int))) (ss_one (s_asg (m := true) (i := 6) nd rfl (.inl rfl) (e_var (i := 5) rfl (.inl rfl))))
    (ss_cons (s_append (m := true) (i := 2) rfl (.inl rfl) (e_mod (e_bt1 call_int1 b_int rfl T.b_int bt_int (o_e (e_var (i := 5) rfl (.inl rfl)))) e_int))
    (ss_one (s_append (m := true) (i := 2) rfl (.inl rfl) (e_mod (e_mod (e_bt1 call_int1 b_int rfl T.b_int bt_int (o_e (e_add (e_mul (e_var (i := 3) rfl (.inl rfl)) e_int) e_int))) e_int) e_int)))))
    (ss_one (s_for (m := true) PassesOwn.never rfl (i_rng1 rfl T.b_range (a_cons e_int a_nil)) (g_n (i := 7) nd rfl (.inl rfl))
    (ss_one (s_if (m := true) (t_cmp op_gt v_gt (o_e (e_var (i := 6) rfl (.inl rfl))) (o_e e_int)) (ss_cons (s_append (m := true) (i := 2) rfl (.inl rfl) (e_mod (e_bt1 call_int1 b_int rfl T.b_int bt_int (o_e (e_var (i := 6) rfl (.inl rfl)))) e_int))
    (ss_one (s_asg (m := true) (i := 6) nd rfl (.inl rfl) (e_div (e_var (i := 6) rfl (.inl rfl)) e_int))))
    ss_nil)))))))))
    (ss_cons (s_for (m := true) PassesOwn.never rfl (i_rng1 rfl T.b_range (a_cons (e_var (i := 1) rfl (.inl rfl)) a_nil)) (g_n (i := 4) nd rfl (.inl rfl))
    (ss_cons (s_asg (m := true) (i := 3) nd rfl (.inl rfl) (e_mod (e_bt1 call_int1 b_int rfl T.b_int bt_int (o_e (e_add (e_add (e_mul (e_var (i := 3) rfl (.inl rfl)) e_int) (e_var (i := 4) rfl (.inl rfl))) e_int))) e_int))
    (ss_one (s_append (m := true) (i := 2) rfl (.inl rfl) (e_mod (e_bt1 call_int1 b_int rfl T.b_int bt_int (o_e (e_var (i := 3) rfl (.inl rfl)))) e_int)))))
    (ss_one (s_ret (m := true) (e_sl (o_var (i := 2) rfl (.inl rfl)) q_none (q_some (e_var (i := 1) rfl (.inl rfl))))))))))
abbrev sx_law_next : Stmt := topOf 6
abbrev nm_law_next : List Str := ["w", "many"]
theorem sc_law_next : FnScope ["w", "many"] ["w", "many"] (defScope sx_law_next) := ⟨rfl, rfl, rfl, by decide +kernel, rfl, by decide +kernel, by decide +kernel⟩
theorem ok_law_next {f : Addr} {fd : FuncData} (F : Fun K "_law_next" "_law_next" sx_law_next f fd) (T : Txt mg)  : FnG P w K mg base CX0 1 f fd ["w", "many"] (spF K 2 g_law_next) := by
  refine d_ok F sc_law_next fun cdv A outer s H E hr hg => ?_
  have nd := sc_law_next.nd
  exact (ss_cons (s_fadd (hu1 hr) (e_var (i := 0) rfl (.inl rfl)) e_int)
    (ss_cons (s_if (m := true) (t_cmp op_gt v_gt (o_e (e_ix (hu1 hr) (o_e (e_var (i := 0) rfl (.inl rfl))) (o_e e_str))) (o_e (e_b1 call_len b_len rfl T.b_len bt_len (o_e (e_ix (hu1 hr) (o_e (e_var (i := 0) rfl (.inl rfl))) (o_e e_str)))))) (ss_one (s_ret (m := true) e_int))
    ss_nil)
    (ss_one (s_ret (m := true) (e_mod (e_bt1 call_int1 b_int rfl T.b_int bt_int (o_e (e_ix (hu1 hr) (o_e (e_ix (hu1 hr) (o_e (e_var (i := 0) rfl (.inl rfl))) (o_e e_str))) (o_e (e_sub (e_ix (hu1 hr) (o_e (e_var (i := 0) rfl (.inl rfl))) (o_e e_str)) e_int))))) (e_var (i := 1) rfl (.inl rfl)))))))
abbrev sx_law_same : Stmt := topOf 7
abbrev nm_law_same : List Str := ["told", "due"]
theorem sc_law_same : FnScope ["told", "due"] ["told", "due"] (defScope sx_law_same) := ⟨rfl, rfl, rfl, by decide +kernel, rfl, by decide +kernel, by decide +kernel⟩
theorem ok_law_same {f : Addr} {fd : FuncData} (F : Fun K "_law_same" "_law_same" sx_law_same f fd) (T : Txt mg)  : FnG P w K mg base CX0 1 f fd ["told", "due"] (spF K 2 g_law_same) := by
  refine d_ok F sc_law_same fun cdv A outer s H E hr hg => ?_
  have nd := sc_law_same.nd
  exact (ss_one (s_ret (m := true) (e_and (e_cmp (op_eqD (hu64 hr)) v_eq (o_e (e_var (i := 0) rfl (.inl rfl))) (o_e (e_var (i := 1) rfl (.inl rfl)))) (e_one (e_reprEq hg (hu65 hr) rfl T.b_repr (o_e (e_var (i := 0) rfl (.inl rfl))) (o_e (e_var (i := 1) rfl (.inl rfl))))))))
abbrev sx_stretch_of : Stmt := topOf 1
abbrev nm_stretch_of : List Str := ["day", "today", "every"]
theorem sc_stretch_of : FnScope ["day", "today", "every"] ["day", "today", "every"] (defScope sx_stretch_of) := ⟨rfl, rfl, rfl, by decide +kernel, rfl, by decide +kernel, by decide +kernel⟩
theorem ok_stretch_of {f : Addr} {fd : FuncData} (F : Fun K "stretch_of" "stretch_of" sx_stretch_of f fd) (T : Txt mg)  : FnG P w K mg base CX0 1 f fd ["day", "today", "every"] (spF K 3 g_stretch_of) := by
  refine d_ok F sc_stretch_of fun cdv A outer s H E hr hg => ?_
  have nd := sc_stretch_of.nd
  exact (ss_one (s_ret (m := true) (e_div (e_sub (e_var (i := 1) rfl (.inl rfl)) (e_var (i := 0) rfl (.inl rfl))) (e_var (i := 2) rfl (.inl rfl)))))
abbrev sx_kept_backups : Stmt := topOf 2
abbrev nm_kept_backups : List Str := ["days", "today", "keeps", "found", "every", "many", "oldest", "day", "number"]
theorem sc_kept_backups : FnScope ["days", "today", "keeps", "found", "every", "many", "oldest", "day", "number"] ["days", "today", "keeps"] (defScope sx_kept_backups) := ⟨rfl, rfl, rfl, by decide +kernel, rfl, by decide +kernel, by decide +kernel⟩
theorem ok_kept_backups {f : Addr} {fd : FuncData} (F : Fun K "kept_backups" "kept_backups" sx_kept_backups f fd) (T : Txt mg) (C_stretch_of : Callee P w K mg base "stretch_of" 1 3 g_stretch_of) : FnG P w K mg base CX0 2 f fd ["days", "today", "keeps"] (spF K 3 g_kept_backups) := by
  refine d_ok F sc_kept_backups fun cdv A outer s H E hr hg => ?_
  have nd := sc_kept_backups.nd
  exact (ss_cons (s_own (m := true) (i := 3) nd rfl (.inl rfl) n_dct)
    (ss_cons (s_for (m := true) PassesOwn.never rfl (i_val (e_var (i := 2) rfl (.inl rfl))) (g_t rfl (g_cons (g_n (i := 4) nd rfl (.inl rfl)) (g_cons (g_n (i := 5) nd rfl (.inl rfl)) g_nil)))
    (ss_cons (s_own (m := true) (i := 6) nd rfl (.inl rfl) n_dct)
    (ss_cons (s_for (m := true) PassesOwn.never rfl (i_val (e_var (i := 0) rfl (.inl rfl))) (g_n (i := 7) nd rfl (.inl rfl))
    (ss_cons (s_asg (m := false) (i := 8) nd rfl (.inl rfl) (e_callee (m := true) C_stretch_of hr hg rfl (a_cons (e_var (i := 7) rfl (.inl rfl)) (a_cons (e_var (i := 1) rfl (.inl rfl)) (a_cons (e_var (i := 4) rfl (.inl rfl)) a_nil))) (cons_len (cons_len (cons_len nil_len)))))
    (ss_one (s_put (m := true) (i := 6) (hu1 hr) rfl (.inl rfl) (e_var (i := 8) rfl (.inl rfl)) (e_b2 (call_min2 rfl) b_min2 rfl T.b_min bt_min (o_e (e_get (hu1 hr) (o_var (i := 6) rfl (.inl rfl)) (e_var (i := 8) rfl (.inl rfl)) (e_var (i := 7) rfl (.inl rfl)) ⟨rfl, rfl, rfl, rfl⟩)) (o_e (e_var (i := 7) rfl (.inl rfl))))))))
    (ss_one (s_for (m := true) PassesOwn.never rfl (i_val (e_sl (o_e (e_b1 (Cr.CallR.or cr_sortedI (call_sortedDI rfl)) b_sorted rfl T.b_sorted bt_sorted (o_var (i := 6) rfl (.inl rfl)))) q_none (q_some (e_var (i := 5) rfl (.inl rfl))))) (g_n (i := 8) nd rfl (.inl rfl))
    (ss_one (s_put (m := true) (i := 3) (hu1 hr) rfl (.inl rfl) (e_ix (hu1 hr) (o_var (i := 6) rfl (.inl rfl)) (o_e (e_var (i := 8) rfl (.inl rfl)))) e_bl)))))))
    (ss_one (s_ret (m := true) (e_bt1 call_tuple_of b_tuple rfl T.b_tuple bt_tuple (o_e (e_b1 (Cr.CallR.or cr_sortedI (call_sortedDI rfl)) b_sorted rfl T.b_sorted bt_sorted (o_var (i := 3) rfl (.inl rfl)))))))))
abbrev sx_law_kept : Stmt := topOf 8
abbrev nm_law_kept : List Str := ["days", "today", "keeps", "found", "every", "many", "back", "met", "stretch", "day"]
theorem sc_law_kept : FnScope ["days", "today", "keeps", "found", "every", "many", "back", "met", "stretch", "day"] ["days", "today", "keeps"] (defScope sx_law_kept) := ⟨rfl, rfl, rfl, by decide +kernel, rfl, by decide +kernel, by decide +kernel⟩
theorem lk_law_kept_0_day : List.lookup ("day" : Str) [((".0" : Str), NameKind.local), (("day" : Str), NameKind.local), (("back" : Str), NameKind.free)] = some NameKind.local := by decide +kernel
theorem lk_law_kept_1_day : List.lookup ("day" : Str) [((".0" : Str), NameKind.local), (("day" : Str), NameKind.local), (("back" : Str), NameKind.free), (("every" : Str), NameKind.free)] = some NameKind.local := by decide +kernel
theorem lk_law_kept_2_day : List.lookup ("day" : Str) [((".0" : Str), NameKind.local), (("day" : Str), NameKind.local)] = some NameKind.local := by decide +kernel
theorem ok_law_kept {f : Addr} {fd : FuncData} (F : Fun K "_law_kept" "_law_kept" sx_law_kept f fd) (T : Txt mg)  : FnG P w K mg base CX0 1 f fd ["days", "today", "keeps"] (spF K 3 g_law_kept) := by
  refine d_ok F sc_law_kept fun cdv A outer s H E hr hg => ?_
  have nd := sc_law_kept.nd
  exact (ss_cons (s_own (m := true) (i := 3) nd rfl (.inl rfl) (n_lst a_nil))
    (ss_cons (s_for (m := true) PassesOwn.never rfl (i_val (e_var (i := 2) rfl (.inl rfl))) (g_t rfl (g_cons (g_n (i := 4) nd rfl (.inr rfl)) (g_cons (g_n (i := 5) nd rfl (.inl rfl)) g_nil)))
    (ss_cons (s_asgG (m := true) (e_tup (a_cons (e_add (e_var (i := 1) rfl (.inl rfl)) e_int) (a_cons e_int a_nil))) (g_t rfl (g_cons (g_n (i := 6) nd rfl (.inr rfl)) (g_cons (g_n (i := 7) nd rfl (.inl rfl)) g_nil))))
    (ss_one (s_while (m := true) PassesOwn.never (t_w (w_and (t_cmp op_lt v_lt (o_e (e_var (i := 7) rfl (.inl rfl))) (o_e (e_var (i := 5) rfl (.inl rfl)))) (w_and1 (t_cmp (op_neD (hu64 hr)) v_ne (o_e (e_newL (n_comp (own := [("day", 9)]) rfl nd (i_look (o_e (e_var (i := 0) rfl (.inl rfl)))) (by exact blkOk_by (N := nm_law_kept) (sc := defScope sx_law_kept) (own := [("day", 9)]) (by decide +kernel)) (fun _ _ _ _ _ => (g_n (i := 9) nd rfl (.inl (by exact lk_law_kept_0_day)))) (fun _ _ _ _ _ => (ts_one (t_cmp op_lt v_lt (o_e (e_var (i := 9) rfl (.inl (by exact lk_law_kept_0_day)))) (o_e (e_var (i := 6) rfl (.inr (.inl (by rfl)))))))) (fun _ _ _ _ _ => (e_var (i := 9) rfl (.inl (by exact lk_law_kept_0_day))))))) (o_e (e_lst a_nil))))))
    (ss_cons (s_asgC (m := true) (i := 8) (own := [("day", 9)]) rfl nd rfl rfl (sw_true rfl rfl rfl (by decide +kernel)) (i_look (o_e (e_var (i := 0) rfl (.inl rfl)))) (by exact blkOk_by (N := nm_law_kept) (sc := defScope sx_law_kept) (own := [("day", 9)]) (by decide +kernel)) (fun _ _ _ _ _ => (g_n (i := 9) nd rfl (.inl (by exact lk_law_kept_1_day)))) (fun _ _ _ _ _ => (ts_one (t_chn op_le v_le op_lt v_lt (o_e (e_sub (e_var (i := 6) rfl (.inr (.inl (by rfl)))) (e_var (i := 4) rfl (.inr (.inl (by rfl)))))) (o_e (e_var (i := 9) rfl (.inl (by exact lk_law_kept_1_day)))) (o_e (e_var (i := 6) rfl (.inr (.inl (by rfl)))))))) (fun _ _ _ _ _ => (e_var (i := 9) rfl (.inl (by exact lk_law_kept_1_day)))))
    (ss_cons (s_if (m := true) (t_cmp (op_neD (hu64 hr)) v_ne (o_e (e_var (i := 8) rfl (.inl rfl))) (o_e (e_lst a_nil))) (ss_cons (s_append (m := true) (i := 3) rfl (.inl rfl) (e_b1 (cr_min rfl) b_min rfl T.b_min bt_min (o_e (e_var (i := 8) rfl (.inl rfl)))))
    (ss_one (s_asg (m := true) (i := 7) nd rfl (.inl rfl) (e_add (e_var (i := 7) rfl (.inl rfl)) e_int))))
    ss_nil)
    (ss_one (s_asg (m := true) (i := 6) nd rfl (.inr rfl) (e_sub (e_var (i := 6) rfl (.inr (.inl rfl))) (e_var (i := 4) rfl (.inr (.inl rfl))))))))))))
    (ss_one (s_ret (m := true) (e_bt1 call_tuple_of b_tuple rfl T.b_tuple bt_tuple (o_e (e_b1 (Cr.CallR.or cr_sortedI (call_sortedDI rfl)) b_sorted rfl T.b_sorted bt_sorted (o_e (e_new (n_dictP rfl rfl T.b_dict (e_newL (n_comp (own := [("day", 9)]) rfl nd (i_look (o_var (i := 3) rfl (.inl rfl))) (by exact blkOk_by (N := nm_law_kept) (sc := defScope sx_law_kept) (own := [("day", 9)]) (by decide +kernel)) (fun _ _ _ _ _ => (g_n (i := 9) nd rfl (.inl (by exact lk_law_kept_2_day)))) (fun _ _ _ _ _ => ts_nil) (fun _ _ _ _ _ => (e_tup (a_cons (e_var (i := 9) rfl (.inl (by exact lk_law_kept_2_day))) (a_cons e_bl a_nil))))))))))))))))
abbrev sx_oldest_kept : Stmt := topOf 3
abbrev nm_oldest_kept : List Str := ["keeps", "every", "many"]
theorem sc_oldest_kept : FnScope ["keeps", "every", "many"] ["keeps"] (defScope sx_oldest_kept) := ⟨rfl, rfl, rfl, by decide +kernel, rfl, by decide +kernel, by decide +kernel⟩
theorem lk_oldest_kept_0_many : List.lookup ("many" : Str) [((".0" : Str), NameKind.local), (("every" : Str), NameKind.local), (("many" : Str), NameKind.local)] = some NameKind.local := by decide +kernel
theorem lk_oldest_kept_0_every : List.lookup ("every" : Str) [((".0" : Str), NameKind.local), (("every" : Str), NameKind.local), (("many" : Str), NameKind.local)] = some NameKind.local := by decide +kernel
theorem ok_oldest_kept {f : Addr} {fd : FuncData} (F : Fun K "oldest_kept" "oldest_kept" sx_oldest_kept f fd) (T : Txt mg)  : FnG P w K mg base CX0 1 f fd ["keeps"] (spF K 1 g_oldest_kept) := by
  refine d_ok F sc_oldest_kept fun cdv A outer s H E hr hg => ?_
  have nd := sc_oldest_kept.nd
  exact (ss_one (s_ret (m := true) (e_b1 (cr_max rfl) b_max rfl T.b_max bt_max (o_e (e_add (e_lst (a_cons e_int a_nil)) (e_newL (n_comp (own := [("every", 1), ("many", 2)]) rfl nd (i_look (o_e (e_var (i := 0) rfl (.inl rfl)))) (by exact blkOk_by (N := nm_oldest_kept) (sc := defScope sx_oldest_kept) (own := [("every", 1), ("many", 2)]) (by decide +kernel)) (fun _ _ _ _ _ => (g_t rfl (g_cons (g_n (i := 1) nd rfl (.inl (by exact lk_oldest_kept_0_every))) (g_cons (g_n (i := 2) nd rfl (.inl (by exact lk_oldest_kept_0_many))) g_nil)))) (fun _ _ _ _ _ => (ts_one (t_cmp op_gt v_gt (o_e (e_var (i := 2) rfl (.inl (by exact lk_oldest_kept_0_many)))) (o_e e_int)))) (fun _ _ _ _ _ => (e_sub (e_mul (e_var (i := 1) rfl (.inl (by exact lk_oldest_kept_0_every))) (e_var (i := 2) rfl (.inl (by exact lk_oldest_kept_0_many)))) e_int)))))))))
abbrev sx_law : Stmt := topOf 9
abbrev nm_law : List Str := ["script", "w", "turn", "thin", "days", "today", "keeps", "each", "day", "k"]
theorem sc_law : FnScope ["script", "w", "turn", "thin", "days", "today", "keeps", "each", "day", "k"] ["script"] (defScope sx_law) := ⟨rfl, rfl, rfl, by decide +kernel, rfl, by decide +kernel, by decide +kernel⟩
theorem lk_law_0_day : List.lookup ("day" : Str) [((".0" : Str), NameKind.local), (("day" : Str), NameKind.local), (("_law_next" : Str), NameKind.globalImplicit), (("thin" : Str), NameKind.free), (("w" : Str), NameKind.free)] = some NameKind.local := by decide +kernel
theorem lk_law_0_law_next : List.lookup ("_law_next" : Str) [((".0" : Str), NameKind.local), (("day" : Str), NameKind.local), (("_law_next" : Str), NameKind.globalImplicit), (("thin" : Str), NameKind.free), (("w" : Str), NameKind.free)] = some NameKind.globalImplicit := by decide +kernel
theorem lk_law_1_k : List.lookup ("k" : Str) [((".0" : Str), NameKind.local), (("k" : Str), NameKind.local), (("_law_next" : Str), NameKind.globalImplicit), (("w" : Str), NameKind.free)] = some NameKind.local := by decide +kernel
theorem lk_law_1_law_next : List.lookup ("_law_next" : Str) [((".0" : Str), NameKind.local), (("k" : Str), NameKind.local), (("_law_next" : Str), NameKind.globalImplicit), (("w" : Str), NameKind.free)] = some NameKind.globalImplicit := by decide +kernel
theorem ok_law {f : Addr} {fd : FuncData} (F : Fun K "law" "law" sx_law f fd) (T : Txt mg) (C_law_draws : Callee P w K mg base "_law_draws" 1 2 g_law_draws) (C_law_kept : Callee P w K mg base "_law_kept" 1 3 g_law_kept) (C_law_next : Callee P w K mg base "_law_next" 1 2 g_law_next) (C_law_same : Callee P w K mg base "_law_same" 1 2 g_law_same) (C_kept_backups : Callee P w K mg base "kept_backups" 2 3 g_kept_backups) (C_oldest_kept : Callee P w K mg base "oldest_kept" 1 1 g_oldest_kept) : FnG P w K mg base CX0 3 f fd ["script"] (spF K 1 g_law) := by
  refine d_ok F sc_law fun cdv A outer s H E hr hg => ?_
  have nd := sc_law.nd
  exact (ss_cons (s_asg (m := false) (i := 1) nd rfl (.inr rfl) (e_sd2 (e_callee (m := true) C_law_draws hr hg rfl (a_cons (e_var (i := 0) rfl (.inl rfl)) (a_cons e_int a_nil)) (cons_len (cons_len nil_len))) e_int))
    (ss_cons (s_for (m := true) PassesOwn.never rfl (i_rng1 rfl T.b_range (a_cons e_int a_nil)) (g_n (i := 2) nd rfl (.inl rfl))
    (ss_cons (s_asg (m := false) (i := 3) nd rfl (.inr rfl) (e_add e_int (e_callee (m := true) C_law_next hr hg rfl (a_cons (e_var (i := 1) rfl (.inr (.inl rfl))) (a_cons e_int a_nil)) (cons_len (cons_len nil_len)))))
    (ss_cons (s_asg (m := false) (i := 4) nd rfl (.inl rfl) (e_bt1 call_tuple_of b_tuple rfl T.b_tuple bt_tuple (o_e (e_newL (n_comp (own := [("day", 8)]) rfl nd (IV.e (i_rng2 rfl T.b_range (a_cons (e_neg e_int) (a_cons e_int a_nil)))) (by exact blkOk_by (N := nm_law) (sc := defScope sx_law) (own := [("day", 8)]) (by decide +kernel)) (fun _ _ _ _ _ => (g_n (i := 8) nd rfl (.inl (by exact lk_law_0_day)))) (fun _ _ _ _ _ => (ts_one (t_cmp (op_eqD (hu64 hr)) v_eq (o_e (e_callee (m := true) C_law_next hr hg (by exact lk_law_0_law_next) (a_cons (e_var (i := 1) rfl (.inr (.inl (by rfl)))) (a_cons (e_var (i := 3) rfl (.inr (.inl (by rfl)))) a_nil)) (cons_len (cons_len nil_len)))) (o_e e_int)))) (fun _ _ _ _ _ => (e_var (i := 8) rfl (.inl (by exact lk_law_0_day)))))))))
    (ss_cons (s_asg (m := false) (i := 5) nd rfl (.inl rfl) (e_add (e_ife (t_cmp (op_neD (hu64 hr)) v_ne (o_e (e_var (i := 4) rfl (.inl rfl))) (o_e (e_tup a_nil))) (e_ix (hu1 hr) (o_e (e_var (i := 4) rfl (.inl rfl))) (o_e (e_neg e_int))) e_int) (e_ix (hu1 hr) (o_e (e_lst (a_cons e_int (a_cons e_int (a_cons e_int (a_cons (e_callee (m := true) C_law_next hr hg rfl (a_cons (e_var (i := 1) rfl (.inr (.inl rfl))) (a_cons e_int a_nil)) (cons_len (cons_len nil_len))) a_nil)))))) (o_e (e_callee (m := true) C_law_next hr hg rfl (a_cons (e_var (i := 1) rfl (.inr (.inl rfl))) (a_cons e_int a_nil)) (cons_len (cons_len nil_len)))))))
    (ss_cons (s_asg (m := false) (i := 6) nd rfl (.inl rfl) (e_bt1 call_tuple_of b_tuple rfl T.b_tuple bt_tuple (o_e (e_newL (n_comp (own := [("k", 9)]) rfl nd (IV.e (i_rng1 rfl T.b_range (a_cons (e_callee (m := true) C_law_next hr hg rfl (a_cons (e_var (i := 1) rfl (.inr (.inl rfl))) (a_cons e_int a_nil)) (cons_len (cons_len nil_len))) a_nil))) (by exact blkOk_by (N := nm_law) (sc := defScope sx_law) (own := [("k", 9)]) (by decide +kernel)) (fun _ _ _ _ _ => (g_n (i := 9) nd rfl (.inl (by exact lk_law_1_k)))) (fun _ _ _ _ _ => ts_nil) (fun _ _ _ _ _ => (e_tup (a_cons (e_add e_int (e_callee (m := true) C_law_next hr hg (by exact lk_law_1_law_next) (a_cons (e_var (i := 1) rfl (.inr (.inl (by rfl)))) (a_cons e_int a_nil)) (cons_len (cons_len nil_len)))) (a_cons (e_add e_int (e_callee (m := true) C_law_next hr hg (by exact lk_law_1_law_next) (a_cons (e_var (i := 1) rfl (.inr (.inl (by rfl)))) (a_cons e_int a_nil)) (cons_len (cons_len nil_len)))) a_nil)))))))))
    (ss_cons (s_if (m := false) (t_not (t_val (e_callee (m := false) C_law_same hr hg rfl (a_cons (e_callee (m := true) C_kept_backups hr hg rfl (a_cons (e_var (i := 4) rfl (.inl rfl)) (a_cons (e_var (i := 5) rfl (.inl rfl)) (a_cons (e_var (i := 6) rfl (.inl rfl)) a_nil))) (cons_len (cons_len (cons_len nil_len)))) (a_cons (e_callee (m := true) C_law_kept hr hg rfl (a_cons (e_var (i := 4) rfl (.inl rfl)) (a_cons (e_var (i := 5) rfl (.inl rfl)) (a_cons (e_var (i := 6) rfl (.inl rfl)) a_nil))) (cons_len (cons_len (cons_len nil_len)))) a_nil)) (cons_len (cons_len nil_len))))) (ss_one (s_ret (m := true) e_bl))
    ss_nil)
    (ss_cons (s_asg (m := false) (i := 6) nd rfl (.inl rfl) (e_add (e_var (i := 6) rfl (.inl rfl)) (e_tup (a_cons (e_tup (a_cons (e_add e_int (e_callee (m := true) C_law_next hr hg rfl (a_cons (e_var (i := 1) rfl (.inr (.inl rfl))) (a_cons e_int a_nil)) (cons_len (cons_len nil_len)))) (a_cons (e_add e_int (e_callee (m := true) C_law_next hr hg rfl (a_cons (e_var (i := 1) rfl (.inr (.inl rfl))) (a_cons e_int a_nil)) (cons_len (cons_len nil_len)))) a_nil))) a_nil))))
    (ss_cons (s_asg (m := true) (i := 7) nd rfl (.inl rfl) (e_tupRg2 rfl rfl T.b_tuple rfl T.b_range (e_sub (e_var (i := 5) rfl (.inl rfl)) e_int) (e_add (e_var (i := 5) rfl (.inl rfl)) e_int)))
    (ss_one (s_if (m := false) (t_not (t_val (e_callee (m := false) C_law_same hr hg rfl (a_cons (e_callee (m := true) C_oldest_kept hr hg rfl (a_cons (e_var (i := 6) rfl (.inl rfl)) a_nil) (cons_len nil_len)) (a_cons (e_sub (e_var (i := 5) rfl (.inl rfl)) (e_ix (hu1 hr) (o_e (e_callee (m := true) C_law_kept hr hg rfl (a_cons (e_var (i := 7) rfl (.inl rfl)) (a_cons (e_var (i := 5) rfl (.inl rfl)) (a_cons (e_var (i := 6) rfl (.inl rfl)) a_nil))) (cons_len (cons_len (cons_len nil_len))))) (o_e e_int))) a_nil)) (cons_len (cons_len nil_len))))) (ss_one (s_ret (m := true) e_bl))
    ss_nil))))))))))
    (ss_one (s_ret (m := true) e_bl))))
end
theorem all_mk {l : PySem.W.OpenLaw} {w : World} {K : PySem.W.Frag} {h : Heap} {mg : Str → Option Value} {fa f0 f1 f2 f3 f4 f5 f6 f7 : Addr} (X : K.In h) (G : h.Ns mainGlobals mg) (hfa : mg "law" = some (.ref fa)) (LT : ∀ ns : List Int, ns.length ≤ 63 → ∃ st1, g_law [.scr ns] [] = .ok (.bl true) st1)
    {od0 an0 od1 an1 od2 an2 od3 an3 od4 an4 od5 an5 od6 an6 od7 an7 : Option Addr} {sl0 sl1 sl2 sl3 sl4 sl5 sl6 sl7 : Array (Option Value)} {oc0 kV0 dc0 pm0 cd0 ct0 oc1 kV1 dc1 pm1 cd1 ct1 oc2 kV2 dc2 pm2 cd2 ct2 oc3 kV3 dc3 pm3 cd3 ct3 oc4 kV4 dc4 pm4 cd4 ct4 oc5 kV5 dc5 pm5 cd5 ct5 oc6 kV6 dc6 pm6 cd6 ct6 oc7 kV7 dc7 pm7 cd7 ct7 : Value}
    (a0 : PySem.W.nsIn K mainGlobals "_law_draws" = some (some (.ref f0))) (l0 : K.lookup f0 = some ⟨oc0, od0, .func (PySem.W.fnOf "_law_draws" "_law_draws" (defArgs sx_law_draws) (defBody sx_law_draws) (defScope sx_law_draws) .none kV0 dc0 pm0 an0 cd0 ct0), sl0⟩) (c0 : PySem.W.codeIn K cd0 "_law_draws" = true) (k0 : PySem.W.keepIn K (.ref f0) = true)
    (a1 : PySem.W.nsIn K mainGlobals "_law_next" = some (some (.ref f1))) (l1 : K.lookup f1 = some ⟨oc1, od1, .func (PySem.W.fnOf "_law_next" "_law_next" (defArgs sx_law_next) (defBody sx_law_next) (defScope sx_law_next) .none kV1 dc1 pm1 an1 cd1 ct1), sl1⟩) (c1 : PySem.W.codeIn K cd1 "_law_next" = true) (k1 : PySem.W.keepIn K (.ref f1) = true)
    (a2 : PySem.W.nsIn K mainGlobals "_law_same" = some (some (.ref f2))) (l2 : K.lookup f2 = some ⟨oc2, od2, .func (PySem.W.fnOf "_law_same" "_law_same" (defArgs sx_law_same) (defBody sx_law_same) (defScope sx_law_same) .none kV2 dc2 pm2 an2 cd2 ct2), sl2⟩) (c2 : PySem.W.codeIn K cd2 "_law_same" = true) (k2 : PySem.W.keepIn K (.ref f2) = true)
    (a3 : PySem.W.nsIn K mainGlobals "stretch_of" = some (some (.ref f3))) (l3 : K.lookup f3 = some ⟨oc3, od3, .func (PySem.W.fnOf "stretch_of" "stretch_of" (defArgs sx_stretch_of) (defBody sx_stretch_of) (defScope sx_stretch_of) .none kV3 dc3 pm3 an3 cd3 ct3), sl3⟩) (c3 : PySem.W.codeIn K cd3 "stretch_of" = true) (k3 : PySem.W.keepIn K (.ref f3) = true)
    (a4 : PySem.W.nsIn K mainGlobals "kept_backups" = some (some (.ref f4))) (l4 : K.lookup f4 = some ⟨oc4, od4, .func (PySem.W.fnOf "kept_backups" "kept_backups" (defArgs sx_kept_backups) (defBody sx_kept_backups) (defScope sx_kept_backups) .none kV4 dc4 pm4 an4 cd4 ct4), sl4⟩) (c4 : PySem.W.codeIn K cd4 "kept_backups" = true) (k4 : PySem.W.keepIn K (.ref f4) = true)
    (a5 : PySem.W.nsIn K mainGlobals "_law_kept" = some (some (.ref f5))) (l5 : K.lookup f5 = some ⟨oc5, od5, .func (PySem.W.fnOf "_law_kept" "_law_kept" (defArgs sx_law_kept) (defBody sx_law_kept) (defScope sx_law_kept) .none kV5 dc5 pm5 an5 cd5 ct5), sl5⟩) (c5 : PySem.W.codeIn K cd5 "_law_kept" = true) (k5 : PySem.W.keepIn K (.ref f5) = true)
    (a6 : PySem.W.nsIn K mainGlobals "oldest_kept" = some (some (.ref f6))) (l6 : K.lookup f6 = some ⟨oc6, od6, .func (PySem.W.fnOf "oldest_kept" "oldest_kept" (defArgs sx_oldest_kept) (defBody sx_oldest_kept) (defScope sx_oldest_kept) .none kV6 dc6 pm6 an6 cd6 ct6), sl6⟩) (c6 : PySem.W.codeIn K cd6 "oldest_kept" = true) (k6 : PySem.W.keepIn K (.ref f6) = true)
    (a7 : PySem.W.nsIn K mainGlobals "law" = some (some (.ref f7))) (l7 : K.lookup f7 = some ⟨oc7, od7, .func (PySem.W.fnOf "law" "law" (defArgs sx_law) (defBody sx_law) (defScope sx_law) .none kV7 dc7 pm7 an7 cd7 ct7), sl7⟩) (c7 : PySem.W.codeIn K cd7 "law" = true) (k7 : PySem.W.keepIn K (.ref f7) = true)
    (z_abs : PySem.W.nsIn K mainGlobals "abs" = some none)
    (z_dict : PySem.W.nsIn K mainGlobals "dict" = some none)
    (z_int : PySem.W.nsIn K mainGlobals "int" = some none)
    (z_len : PySem.W.nsIn K mainGlobals "len" = some none)
    (z_max : PySem.W.nsIn K mainGlobals "max" = some none)
    (z_min : PySem.W.nsIn K mainGlobals "min" = some none)
    (z_range : PySem.W.nsIn K mainGlobals "range" = some none)
    (z_repr : PySem.W.nsIn K mainGlobals "repr" = some none)
    (z_sorted : PySem.W.nsIn K mainGlobals "sorted" = some none)
    (z_tuple : PySem.W.nsIn K mainGlobals "tuple" = some none)
    : ∃ fd : FuncData, (∀ (s : Shared) (v : Value), BindsTo s fd ⟨[v], []⟩ [("script", v)]) ∧ ∀ base : Heap, K.In base → base.Ns mainGlobals mg → FnG l.prog w K mg base CX0 3 fa fd ["script"] (spLaw K) := by
  have e := hfa.symm.trans (PySem.W.mg_of X G a7)
  cases e
  have T : Txt mg := ⟨PySem.W.mg_none_of X G z_abs, PySem.W.mg_none_of X G z_dict, PySem.W.mg_none_of X G z_int, PySem.W.mg_none_of X G z_len, PySem.W.mg_none_of X G z_max, PySem.W.mg_none_of X G z_min, PySem.W.mg_none_of X G z_range, PySem.W.mg_none_of X G z_repr, PySem.W.mg_none_of X G z_sorted, PySem.W.mg_none_of X G z_tuple⟩
  have F0 := fun_mk (st := sx_law_draws) l0 c0 k0
  have b0 := F0.binds (ps := ["script", "many"]) fun _ _ _ _ _ _ us hl => match us, hl with | [_, _], _ => rfl
  have F1 := fun_mk (st := sx_law_next) l1 c1 k1
  have b1 := F1.binds (ps := ["w", "many"]) fun _ _ _ _ _ _ us hl => match us, hl with | [_, _], _ => rfl
  have F2 := fun_mk (st := sx_law_same) l2 c2 k2
  have b2 := F2.binds (ps := ["told", "due"]) fun _ _ _ _ _ _ us hl => match us, hl with | [_, _], _ => rfl
  have F3 := fun_mk (st := sx_stretch_of) l3 c3 k3
  have b3 := F3.binds (ps := ["day", "today", "every"]) fun _ _ _ _ _ _ us hl => match us, hl with | [_, _, _], _ => rfl
  have F4 := fun_mk (st := sx_kept_backups) l4 c4 k4
  have b4 := F4.binds (ps := ["days", "today", "keeps"]) fun _ _ _ _ _ _ us hl => match us, hl with | [_, _, _], _ => rfl
  have F5 := fun_mk (st := sx_law_kept) l5 c5 k5
  have b5 := F5.binds (ps := ["days", "today", "keeps"]) fun _ _ _ _ _ _ us hl => match us, hl with | [_, _, _], _ => rfl
  have F6 := fun_mk (st := sx_oldest_kept) l6 c6 k6
  have b6 := F6.binds (ps := ["keeps"]) fun _ _ _ _ _ _ us hl => match us, hl with | [_], _ => rfl
  have F7 := fun_mk (st := sx_law) l7 c7 k7
  have b7 := F7.binds (ps := ["script"]) fun _ _ _ _ _ _ us hl => match us, hl with | [_], _ => rfl
  refine ⟨PySem.W.fnOf "law" "law" (defArgs sx_law) (defBody sx_law) (defScope sx_law) .none kV7 dc7 pm7 an7 cd7 ct7, fun s v => .of_eq rfl, fun base _ _ => ?_⟩
  have C_law_draws : Callee l.prog w K mg base "_law_draws" 1 2 g_law_draws := callee_mk (ok_law_draws F0 T ) (PySem.W.mg_of X G a0) k0 b0
  have C_law_next : Callee l.prog w K mg base "_law_next" 1 2 g_law_next := callee_mk (ok_law_next F1 T ) (PySem.W.mg_of X G a1) k1 b1
  have C_law_same : Callee l.prog w K mg base "_law_same" 1 2 g_law_same := callee_mk (ok_law_same F2 T ) (PySem.W.mg_of X G a2) k2 b2
  have C_stretch_of : Callee l.prog w K mg base "stretch_of" 1 3 g_stretch_of := callee_mk (ok_stretch_of F3 T ) (PySem.W.mg_of X G a3) k3 b3
  have C_kept_backups : Callee l.prog w K mg base "kept_backups" 2 3 g_kept_backups := callee_mk (ok_kept_backups F4 T C_stretch_of) (PySem.W.mg_of X G a4) k4 b4
  have C_law_kept : Callee l.prog w K mg base "_law_kept" 1 3 g_law_kept := callee_mk (ok_law_kept F5 T ) (PySem.W.mg_of X G a5) k5 b5
  have C_oldest_kept : Callee l.prog w K mg base "oldest_kept" 1 1 g_oldest_kept := callee_mk (ok_oldest_kept F6 T ) (PySem.W.mg_of X G a6) k6 b6
  exact law_ok (ok_law F7 T C_law_draws C_law_kept C_law_next C_law_same C_kept_backups C_oldest_kept) LT
end Cr.L61
open PySem PySem.W PyProof.Rows
set_option maxRecDepth 100000 in
set_option maxHeartbeats 0 in
theorem PySem.Challenge.cw_daysworn_k61_backups_that_are_kept_holds : PySem.Challenge.rw_daysworn_k61_backups_that_are_kept.Holds := by
  w_on; o_law; k_head; (case hw => w_witness2)
  k_fill
  refine Cr.walk_law (l := PySem.Challenge.rw_daysworn_k61_backups_that_are_kept) (k := 3) (x := "script") (CX := fun _ => L2.CX0) rfl rfl ⟨rfl, by decide, by decide⟩ (fun w h Y => PySem.W.kIn_of Y) ?F (fun _ _ _ _ _ z => z)
  case F =>
    intro w mg fa h KX G hmg
    refine' Cr.L61.all_mk (l := PySem.Challenge.rw_daysworn_k61_backups_that_are_kept) (w := w) KX G hmg Cr.L61.law_true ?a0 ?l0 ?c0 ?k0 ?a1 ?l1 ?c1 ?k1 ?a2 ?l2 ?c2 ?k2 ?a3 ?l3 ?c3 ?k3 ?a4 ?l4 ?c4 ?k4 ?a5 ?l5 ?c5 ?k5 ?a6 ?l6 ?c6 ?k6 ?a7 ?l7 ?c7 ?k7 ?z_abs ?z_dict ?z_int ?z_len ?z_max ?z_min ?z_range ?z_repr ?z_sorted ?z_tuple
    (case a0 => k_is)
    (case l0 => k_is)
    (case c0 => k_is)
    (case k0 => k_is)
    (case a1 => k_is)
    (case l1 => k_is)
    (case c1 => k_is)
    (case k1 => k_is)
    (case a2 => k_is)
    (case l2 => k_is)
    (case c2 => k_is)
    (case k2 => k_is)
    (case a3 => k_is)
    (case l3 => k_is)
    (case c3 => k_is)
    (case k3 => k_is)
    (case a4 => k_is)
    (case l4 => k_is)
    (case c4 => k_is)
    (case k4 => k_is)
    (case a5 => k_is)
    (case l5 => k_is)
    (case c5 => k_is)
    (case k5 => k_is)
    (case a6 => k_is)
    (case l6 => k_is)
    (case c6 => k_is)
    (case k6 => k_is)
    (case a7 => k_is)
    (case l7 => k_is)
    (case c7 => k_is)
    (case k7 => k_is)
    (case z_abs => k_is)
    (case z_dict => k_is)
    (case z_int => k_is)
    (case z_len => k_is)
    (case z_max => k_is)
    (case z_min => k_is)
    (case z_range => k_is)
    (case z_repr => k_is)
    (case z_sorted => k_is)
    (case z_tuple => k_is)
