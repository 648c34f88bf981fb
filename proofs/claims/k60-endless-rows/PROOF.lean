import PyProof.Rows.All
import Wide.All
import OpenK.AllK
import Wide.FinOn
import HandS.List
import HandS.ForMost
import HandS.Exc
import HandS.WordsExc
import HandS.Gcd
import HandS.Wide
import HandS.Lambda
import HandS.CallSlots
import HandS.Strs
import HandS.TupAny
import HandS.TupMul
import HandS.IsInst
import HandS.Conv
import HandS.TupLen
import HandS.Deep
import HandS.SortInts
import HandS.Style
import HandS.Walk
import HandS.Zip
import HandS.Rev
import HandS.Small
import HandS.Dict
import HandS.Defaults
import HandS.HeadEnd
import HandS.HeadHook4
import HandS.ExcInit
import HandS.ExcField
import HandS.TryOnly
import HandS.RaiseMore
import PyProof.ReprRoads
import KE.GoesEnum
import HandS.HeadHook1
import HandS.HeadHook2
import HandS.Nested
import HandS.EndTab
import KE.KStateDown
import HandS.Head0
import HandS.Head1
import HandS.Head2
import HandS.HeadHook3
import PySem.Challenge.RW_alwayswhole_k60_whole_endless_rows
/-! DnA -/
set_option Elab.async false
set_option linter.all false
set_option maxRecDepth 100000
/-! Dn, part A: what a def computes, over plain data (no machine here). -/
namespace Dn
open PySem
abbrev D := PyData
abbrev Env := List (Option D)
/-- the end of a piece of code: a result, an exception (its class, its one field), or nothing that is told -/
inductive Out (α : Type) where
  | ok (a : α) (ρ : Env)
  | err (c : Str) (d : D) (ρ : Env)
  | stuck
abbrev M (α : Type) := Env → Out α
def ret {α : Type} (a : α) : M α := fun ρ => .ok a ρ
def bnd {α β : Type} (x : M α) (f : α → M β) : M β := fun ρ => match x ρ with
  | .ok a ρ' => f a ρ'
  | .err c d ρ' => .err c d ρ'
  | .stuck => .stuck
def stk {α : Type} : M α := fun _ => .stuck
def lft {α : Type} (o : Option α) : M α := fun ρ => match o with
  | some a => .ok a ρ
  | none => .stuck
theorem bnd_ok {α β : Type} {x : M α} {f : α → M β} {ρ ρ' : Env} {a : α} (h : x ρ = .ok a ρ') : bnd x f ρ = f a ρ' := by
  unfold bnd; rw [h]
theorem bnd_err {α β : Type} {x : M α} {f : α → M β} {ρ ρ' : Env} {c : Str} {d : D} (h : x ρ = .err c d ρ') : bnd x f ρ = .err c d ρ' := by
  unfold bnd; rw [h]
/-- how a statement ends -/
inductive Flow where
  | next | brk | cont
  | rt (d : D)
abbrev S := M Flow
/-! ### names -/
def var (i : Nat) : M D := fun ρ => match ρ[i]? with
  | some (some d) => .ok d ρ
  | _ => .stuck
def lit (d : D) : M D := ret d
/-! ### operators by values -/
abbrev Op1 := D → Option D
abbrev Op2 := D → D → Option D
def un (f : Op1) (a : M D) : M D := bnd a fun x => lft (f x)
def bin (f : Op2) (a b : M D) : M D := bnd a fun x => bnd b fun y => lft (f x y)
def wideOk (i j : Int) : Bool := decide (i.natAbs < 2 ^ 64) || (decide (j.natAbs < 2 ^ 64) || decide (i.natAbs.log2 + j.natAbs.log2 < 1000000))
def divOk (j : Int) : Bool := decide (j ≠ 0 ∧ j.natAbs < 1073741824) || decide (0 < j ∧ j.natAbs.log2 < 9000)
def lineN : Nat := 16777216
def addD : Op2
  | .int i, .int j => some (.int (i + j))
  | .int i, .bool k => some (.int (i + (if k then 1 else 0)))
  | .str x, .str y => if x.length + y.length ≤ lineN then some (.str (x ++ y)) else none
  | .list xs, .list ys => if xs.length + ys.length ≤ lineN then some (.list (xs ++ ys)) else none
  | .tuple xs, .tuple ys => if xs.length + ys.length ≤ lineN then some (.tuple (xs ++ ys)) else none
  | _, _ => none
def subD : Op2
  | .int i, .int j => some (.int (i - j))
  | .bool a, .bool b => some (.int ((if a then 1 else 0) - (if b then 1 else 0)))
  | _, _ => none
def mulD : Op2
  | .int i, .int j => if wideOk i j then some (.int (i * j)) else none
  | .list xs, .int k => if -(2 ^ 63) ≤ k ∧ k < 2 ^ 63 ∧ xs.length * k.toNat ≤ lineN then some (.list (List.replicate k.toNat xs).flatten) else none
  | .tuple xs, .int k => if 0 ≤ k ∧ k ≤ 1000 ∧ xs.length ≤ 1000 ∧ xs ≠ [] then some (.tuple (List.replicate k.toNat xs).flatten) else none
  | _, _ => none
def fdivD : Op2
  | .int i, .int j => if divOk j then some (.int (i.fdiv j)) else none
  | _, _ => none
def modD : Op2
  | .int i, .int j => if j = 0 then none else some (.int (i.fmod j))
  | _, _ => none
def powD : Op2
  | .int i, .int j => if 0 ≤ j ∧ j ≤ 1000000 ∧ i.natAbs < 2 ^ 64 then some (.int (i ^ j.toNat)) else none
  | _, _ => none
def negD : Op1
  | .int i => some (.int (-i))
  | _ => none
/-! ### comparisons -/
/-- no dict within, no function, n levels deep at most: what == and repr may be asked of -/
def pl : Nat → D → Bool
  | 0, d => match d with
    | .list _ | .tuple _ | .dict _ => false
    | .str x => PySem.PyData.strOk x
    | _ => true
  | n + 1, d => match d with
    | .list xs | .tuple xs => xs.all (pl n)
    | .dict _ => false
    | .str x => PySem.PyData.strOk x
    | _ => true
def eqD : Op2 := fun x y => if pl 60 x && pl 60 y then some (.bool (PyData.eqv x y)) else none
def neD : Op2 := fun x y => if pl 60 x && pl 60 y then some (.bool (!PyData.eqv x y)) else none
def ltD : Op2
  | .int i, .int j => some (.bool (decide (i < j)))
  | _, _ => none
def leD : Op2
  | .int i, .int j => some (.bool (decide (i ≤ j)))
  | _, _ => none
def gtD : Op2
  | .int i, .int j => some (.bool (decide (j < i)))
  | _, _ => none
def geD : Op2
  | .int i, .int j => some (.bool (decide (j ≤ i)))
  | _, _ => none
def isNoneD : Op1
  | .none => some (.bool true)
  | .dict _ => none
  | _ => some (.bool false)
def notNoneD : Op1
  | .none => some (.bool false)
  | .dict _ => none
  | _ => some (.bool true)
/-! ### truth, tests -/
def truthD : D → Option Bool
  | .none => some false
  | .bool b => some b
  | .int i => some (i != 0)
  | .str x => if x.length ≤ lineN then some ((x.length : Int) != 0) else none
  | .list xs | .tuple xs => some (!xs.isEmpty)
  | .dict _ => none
def test (a : M D) : M Bool := bnd a fun x => lft (truthD x)
def boolOf : D → Option Bool
  | .bool b => some b
  | _ => none
/-- a test whose value must be a truth value -/
def testB (a : M D) : M Bool := bnd a fun x => lft (boolOf x)
def notT (a : M Bool) : M Bool := bnd a fun b => ret (!b)
def andT (a b : M Bool) : M Bool := bnd a fun x => if x = true then b else ret false
def orT (a b : M Bool) : M Bool := bnd a fun x => if x = true then ret true else b
/-- and, or, not as values (all but the last a truth value) -/
def andV (a b : M D) : M D := bnd (testB a) fun x => if x = true then b else ret (.bool false)
def orV (a b : M D) : M D := bnd (testB a) fun x => if x = true then ret (.bool true) else b
def notV (a : M D) : M D := bnd (testB a) fun x => ret (.bool (!x))
def ifE (c : M Bool) (a b : M D) : M D := bnd c fun x => if x = true then a else b
/-- a op b op' c -/
def chn (f g : Op2) (a b c : M D) : M D := bnd a fun x => bnd b fun y => bnd (lft (f x y)) fun z => bnd (lft (boolOf z)) fun k => if k = true then bnd c fun w => lft (g y w) else ret (.bool false)
/-! ### displays -/
def nilA : M (List D) := ret []
def consA (a : M D) (r : M (List D)) : M (List D) := bnd a fun x => bnd r fun xs => ret (x :: xs)
def tupE (a : M (List D)) : M D := bnd a fun xs => if xs.length ≤ lineN then ret (.tuple xs) else stk
def lstE (a : M (List D)) : M D := bnd a fun xs => if xs.length ≤ lineN then ret (.list xs) else stk
/-! ### items, lengths -/
def itemD : Op2
  | .list xs, .int i => L2.atI xs i
  | .tuple xs, .int i => L2.atI xs i
  | .str x, .int i => if x.length ≤ lineN then (L2.atI x.cps.toList i).map fun c => .str ⟨#[c]⟩ else none
  | _, _ => none
/-- how many a dict has (no def; the mark of one with tuples as keys is none of them) -/
def dictN : List (D × D) → Option Nat
  | (.none, _) :: _ => none
  | (.bool _, _) :: r => some r.length
  | kvs => some kvs.length
def lenD : Op1
  | .list xs | .tuple xs => some (.int xs.length)
  | .str x => if x.length ≤ lineN then some (.int x.length) else none
  | .dict kvs => (dictN kvs).map fun (n : Nat) => PyData.int (n : Int)
  | _ => none
/-- xs[lo:hi] -/
def cutL (xs : List D) (lo hi : Option Int) : List D := (xs.drop (HT.sIx xs.length 0 lo)).take (HT.sIx xs.length xs.length hi - HT.sIx xs.length 0 lo)
def sliceD (x : D) (lo hi : Option Int) : Option D := match x with
  | .list xs => some (.list (cutL xs lo hi))
  | .tuple xs => some (.tuple (cutL xs lo hi))
  | _ => none
abbrev PartM := M (Option Int)
def noPart : PartM := ret none
def intOf : D → Option Int
  | .int i => some i
  | _ => none
def part (a : M D) : PartM := bnd a fun x => bnd (lft (intOf x)) fun i => ret (some i)
def sliE (a : M D) (lo hi : PartM) : M D := bnd a fun x => bnd lo fun l => bnd hi fun h => lft (sliceD x l h)
/-! ### statements -/
def nx : S := ret .next
def sq (s t : S) : S := bnd s fun f => match f with
  | .next => t
  | f => ret f
def asg (i : Nat) (a : M D) : S := bnd a fun x ρ => .ok .next (ρ.set i (some x))
def drp (a : M D) : S := bnd a fun _ => nx
def rtn (a : M D) : S := bnd a fun x => ret (.rt x)
def ifS (c : M Bool) (s t : S) : S := bnd c fun x => if x = true then s else t
def rai (c : Str) (a : M D) : S := bnd a fun x ρ => .err c x ρ
/-- forget slots -/
def fgt (is : List Nat) (s : S) : S := fun ρ => s (is.foldl (fun r i => r.set i none) ρ)
/-- a target -/
abbrev Tg := D → M Unit
def tgN (i : Nat) : Tg := fun d ρ => .ok () (ρ.set i (some d))
def tgs : List Tg → List D → M Unit
  | [], [] => ret ()
  | t :: ts, d :: ds => bnd (t d) fun _ => tgs ts ds
  | _, _ => stk
def tgT (ts : List Tg) : Tg := fun d => match d with
  | .tuple ds => if ds.length = ts.length then tgs ts ds else stk
  | _ => stk
def asgT (t : Tg) (a : M D) : S := bnd a fun x => bnd (t x) fun _ => nx
/-- a for over items that are known ahead -/
def forL (t : Tg) (b : S) : List D → S
  | [] => nx
  | x :: xs => bnd (t x) fun _ => bnd b fun f => match f with
    | .next => forL t b xs
    | .cont => forL t b xs
    | .brk => nx
    | .rt d => ret (.rt d)
def forS (it : M (List D)) (t : Tg) (b : S) : S := bnd it fun xs => forL t b xs
/-- a while, so many turns at most -/
def whlN (c : M Bool) (b : S) : Nat → S
  | 0 => stk
  | n + 1 => bnd c fun x => if x = true then bnd b fun f => match f with
      | .next => whlN c b n
      | .cont => whlN c b n
      | .brk => nx
      | .rt d => ret (.rt d)
    else nx
end Dn

/-! DnB -/
set_option Elab.async false
set_option linter.all false
set_option maxRecDepth 100000
/-! Dn, part B: how plain data stands in the abstract heap; what a piece of code promises. -/
namespace Dn
open PySem PySem.Spec PyProof.Rows L2
/-- a closed lambda's words -/
structure LamSyn where
  q : Str
  params : Arguments
  body : Expr
  scope : Scope
/-- the program's closed lambdas, numbered -/
class LamTab where
  at_ : Nat → Option LamSyn
  /-- the tables of code objects that stand in the heap, with the name that each one's objects bear -/
  tabs : List (Addr × Str)
/-- the object at f is the lambda l, its code object at c -/
def LamO (f c : Addr) (l : LamSyn) : HO := .ext fun h => ∃ pm ctv : Value, h.get? f = some (PySem.W.kla_obj "<lambda>" l.q l.params l.body l.scope [] pm c ctv)
variable [LamTab]
/-- how a slot is held: not at all; frozen (never written again); owned, written n levels deep -/
inductive Mode where
  | no | fz
  | ow (n : Nat)
  deriving DecidableEq
/-- what a value is -/
inductive Kd where
  | fz
  | new (n : Nat)
  | bor (n : Nat)
def kD : Key → D
  | .inl i => .int i
  | .inr x => .str x
def tD : List Key → D := fun l => .tuple (l.map kD)
/-- a thing of the program's own that may be written: no code, no table -/
def Pl (o : HO) : Prop := (∀ ps, o ≠ .tbl ps) ∧ ∀ φ, o ≠ .ext φ
def Lv (H : Hp) (a : Addr) : Prop := ∃ o, H a = some o ∧ Pl o
theorem Lv.ne {H : Hp} {a : Addr} (h : Lv H a) : H a ≠ none := fun z => by obtain ⟨o, e, _⟩ := h; rw [z] at e; cases e
theorem Lv.lst {H : Hp} {a : Addr} {xs : List V} (h : H a = some (.lst xs)) : Lv H a := ⟨_, h, And.intro (fun _ z => nomatch z) fun _ z => nomatch z⟩
theorem Lv.dK {H : Hp} {a : Addr} {xs : List (Key × V)} (h : H a = some (.dK xs)) : Lv H a := ⟨_, h, And.intro (fun _ z => nomatch z) fun _ z => nomatch z⟩
theorem Lv.dT {H : Hp} {a : Addr} {xs : List (List Key × V)} (h : H a = some (.dT xs)) : Lv H a := ⟨_, h, And.intro (fun _ z => nomatch z) fun _ z => nomatch z⟩
/-- no table of code objects -/
def NT (o : HO) : Prop := ∀ ps, o ≠ .tbl ps
theorem nt_lst {xs : List V} : NT (.lst xs) := fun _ z => nomatch z
theorem nt_tup {xs : List V} : NT (.tup xs) := fun _ z => nomatch z
theorem nt_dK {kvs : List (Key × V)} : NT (.dK kvs) := fun _ z => nomatch z
theorem nt_dT {kvs : List (List Key × V)} : NT (.dT kvs) := fun _ z => nomatch z
theorem nt_frz {o : Obj} {u : HO} : NT (.frz o u) := fun _ z => nomatch z
theorem nt_ext {φ : Heap → Prop} : NT (.ext φ) := fun _ z => nomatch z
theorem nt_xd {fs : List (Str × V)} : NT (.xd fs) := fun _ z => nomatch z
/-- all but the tables stays -/
def grow (H H' : Hp) : Prop := ∀ b o, H b = some o → NT o → H' b = some o
theorem grow.refl {H : Hp} : grow H H := fun _ _ e _ => e
theorem grow.trans {H H1 H2 : Hp} (a : grow H H1) (b : grow H1 H2) : grow H H2 := fun c o e n => b c o (a c o e n) n
theorem grow.upd {H : Hp} {p : Addr} {o : HO} (h : H p = none) : grow H (upd H p o) := fun b u e _ => by
  rw [upd_ne (ne_of_none e h)]; exact e
/-- the tables stay tables -/
def Tb (H H' : Hp) : Prop := LamX.Tabs LamTab.tabs H → LamX.Tabs LamTab.tabs H'
theorem Tb.refl {H : Hp} : Tb H H := fun t => t
theorem Tb.trans {H H1 H2 : Hp} (a : Tb H H1) (b : Tb H1 H2) : Tb H H2 := fun t => b (a t)
/-- what tables hang on stays -/
theorem Tb.of {H H' : Hp} (h1 : ∀ b ps, H b = some (.tbl ps) → H' b = some (.tbl ps)) (h2 : ∀ b φ, H b = some (.ext φ) → H' b = some (.ext φ)) : Tb H H' := fun T p hp => let ⟨ps, a, b, c⟩ := T p hp
  ⟨ps, h1 _ _ a, b, fun pos cv hc => let ⟨x, e1, e2⟩ := c pos cv hc; ⟨x, e1, h2 _ _ e2⟩⟩
theorem Tb.upd {H : Hp} {p : Addr} {o : HO} (h : H p = none) : Tb H (L2.upd H p o) := .of (fun b ps e => by rw [upd_ne (ne_of_none e h)]; exact e) fun b φ e => by rw [upd_ne (ne_of_none e h)]; exact e
/-- a list or a dict is written -/
theorem Tb.wr {H : Hp} {p : Addr} {o u : HO} (h : H p = some u) (n : NT u) (m : ∀ φ, u ≠ .ext φ) : Tb H (L2.upd H p o) := .of (fun b ps e => by
  rw [upd_ne fun z => by rw [z, h] at e; exact n ps (Option.some.inj e)]; exact e) fun b φ e => by
  rw [upd_ne fun z => by rw [z, h] at e; exact m φ (Option.some.inj e)]; exact e
/-- both -/
structure Gr (H H' : Hp) : Prop where
  g : grow H H'
  t : Tb H H'
  there : ∀ b, H b ≠ none → H' b ≠ none
theorem Gr.refl {H : Hp} : Gr H H := ⟨.refl, .refl, fun _ e => e⟩
theorem Gr.trans {H H1 H2 : Hp} (a : Gr H H1) (b : Gr H1 H2) : Gr H H2 := ⟨a.g.trans b.g, a.t.trans b.t, fun c e => b.there c (a.there c e)⟩
theorem Gr.upd {H : Hp} {p : Addr} {o : HO} (h : H p = none) : Gr H (L2.upd H p o) := ⟨.upd h, .upd h, fun b e => by
  rw [upd_ne fun z => e (by rw [z]; exact h)]; exact e⟩
open Classical in
/-- the heap without what is hidden -/
noncomputable def hide (O : Addr → Prop) (H : Hp) : Hp := fun a => if O a then none else H a
theorem hide_at {O : Addr → Prop} {H : Hp} {a : Addr} {o : HO} (h : hide O H a = some o) : ¬ O a ∧ H a = some o := by
  unfold hide at h
  by_cases c : O a
  · rw [if_pos c] at h; cases h
  · rw [if_neg c] at h; exact ⟨c, h⟩
theorem hide_of {O : Addr → Prop} {H : Hp} {a : Addr} {o : HO} (c : ¬ O a) (h : H a = some o) : hide O H a = some o := by
  unfold hide; rw [if_neg c]; exact h
theorem hide_grow {O : Addr → Prop} {H : Hp} : grow (hide O H) H := fun _ _ e _ => (hide_at e).2
theorem hide_raw {O : Addr → Prop} {H : Hp} {a : Addr} {o : HO} (h : hide O H a = some o) : H a = some o := (hide_at h).2
theorem SqL.up {K : PySem.W.Frag} {H H' : Hp} {a : Addr} {xs : List V} (e : grow H H') (h : SqL K H a xs) : SqL K H' a xs := by
  rcases h with (h | ⟨o, h⟩) | h
  · exact .inl (.inl (e _ _ h nt_lst))
  · exact .inl (.inr ⟨o, e _ _ h nt_frz⟩)
  · exact .inr h
theorem Rd.up {H H' : Hp} {a : Addr} {xs : List V} (e : grow H H') (h : Rd H a (.lst xs)) : Rd H' a (.lst xs) := by
  rcases h with h | ⟨o, h⟩
  · exact .inl (e _ _ h nt_lst)
  · exact .inr ⟨o, e _ _ h nt_frz⟩
theorem SqT.up {K : PySem.W.Frag} {H H' : Hp} {a : Addr} {xs : List V} (e : grow H H') (h : SqT K H a xs) : SqT K H' a xs := by
  rcases h with (h | ⟨o, h⟩) | h
  · exact .inl (.inl (e _ _ h nt_tup))
  · exact .inl (.inr ⟨o, e _ _ h nt_frz⟩)
  · exact .inr h
mutual
/-- the value v stands for the data d in the heap G -/
inductive Is (K : PySem.W.Frag) (mg : Str → Option Value) (G : Hp) : V → D → Prop
  | non : Is K mg G .non .none
  | bl (b : Bool) : Is K mg G (.bl b) (.bool b)
  | int (i : Int) : Is K mg G (.int i) (.int i)
  | str (x : Str) : Is K mg G (.str x) (.str x)
  | lst {a : Addr} {xs : List V} {ds : List D} : Rd G a (.lst xs) → IsL K mg G xs ds → Is K mg G (.ref a) (.list ds)
  | tup {a : Addr} {xs : List V} {ds : List D} : SqT K G a xs → IsL K mg G xs ds → Is K mg G (.ref a) (.tuple ds)
  | dK {a : Addr} {kvs : List (Key × V)} {ds : List D} : G a = some (.dK kvs) → IsL K mg G (kvs.map (·.2)) ds → Is K mg G (.ref a) (.dict ((kvs.map fun p => kD p.1).zip ds))
  | dT {a : Addr} {kvs : List (List Key × V)} {ds : List D} : G a = some (.dT kvs) → IsL K mg G (kvs.map (·.2)) ds → Is K mg G (.ref a) (.dict ((.bool true, .none) :: (kvs.map fun p => tD p.1).zip ds))
  | fn {a : Addr} {x : Str} : mg x = some (.ref a) → Is K mg G (.ref a) (.dict [(.none, .str x)])
  | lam {a c : Addr} {n : Nat} {l : LamSyn} : LamTab.at_ n = some l → G a = some (LamO a c l) → G c = some (LamX.CodeO c l.q) → Is K mg G (.ref a) (.dict [(.none, .int n)])
inductive IsL (K : PySem.W.Frag) (mg : Str → Option Value) (G : Hp) : List V → List D → Prop
  | nil : IsL K mg G [] []
  | cons {v : V} {vs : List V} {d : D} {ds : List D} : Is K mg G v d → IsL K mg G vs ds → IsL K mg G (v :: vs) (d :: ds)
end
section
variable {K : PySem.W.Frag} {mg : Str → Option Value} {G G' : Hp}
mutual
theorem Is.up (e : grow G G') : ∀ {v : V} {d : D}, Is K mg G v d → Is K mg G' v d
  | _, _, .non => .non
  | _, _, .bl b => .bl b
  | _, _, .int i => .int i
  | _, _, .str x => .str x
  | _, _, .lst h r => .lst (Rd.up e h) (IsL.up e r)
  | _, _, .tup h r => .tup (SqT.up e h) (IsL.up e r)
  | _, _, .dK h r => .dK (e _ _ h nt_dK) (IsL.up e r)
  | _, _, .dT h r => .dT (e _ _ h nt_dT) (IsL.up e r)
  | _, _, .fn h => .fn h
  | _, _, .lam a h1 h2 => .lam a (e _ _ h1 nt_ext) (e _ _ h2 nt_ext)
theorem IsL.up (e : grow G G') : ∀ {vs : List V} {ds : List D}, IsL K mg G vs ds → IsL K mg G' vs ds
  | _, _, .nil => .nil
  | _, _, .cons a r => .cons (Is.up e a) (IsL.up e r)
end
theorem IsL.length : ∀ {vs : List V} {ds : List D}, IsL K mg G vs ds → vs.length = ds.length
  | _, _, .nil => rfl
  | _, _, .cons _ r => congrArg (· + 1) (IsL.length r)
theorem IsL.get : ∀ {vs : List V} {ds : List D} {i : Nat} {v : V}, IsL K mg G vs ds → vs[i]? = some v → ∃ d, ds[i]? = some d ∧ Is K mg G v d
  | _, _, _, _, .nil, e => by simp at e
  | _, _, 0, _, .cons a _, e => by simp at e; subst e; exact ⟨_, rfl, a⟩
  | _, _, i + 1, v, .cons _ r, e => by
    obtain ⟨d, h1, h2⟩ := IsL.get (i := i) (v := v) r (by simpa using e)
    exact ⟨d, by simpa using h1, h2⟩
theorem IsL.getD : ∀ {vs : List V} {ds : List D} {i : Nat} {d : D}, IsL K mg G vs ds → ds[i]? = some d → ∃ v, vs[i]? = some v ∧ Is K mg G v d
  | _, _, _, _, .nil, e => by simp at e
  | _, _, 0, _, .cons a _, e => by simp at e; subst e; exact ⟨_, rfl, a⟩
  | _, _, i + 1, d, .cons _ r, e => by
    obtain ⟨v, h1, h2⟩ := IsL.getD (i := i) (d := d) r (by simpa using e)
    exact ⟨v, by simpa using h1, h2⟩
theorem IsL.append : ∀ {vs ws : List V} {ds es : List D}, IsL K mg G vs ds → IsL K mg G ws es → IsL K mg G (vs ++ ws) (ds ++ es)
  | _, _, _, _, .nil, r => r
  | _, _, _, _, .cons a q, r => .cons a (IsL.append q r)
theorem IsL.take : ∀ {vs : List V} {ds : List D} (n : Nat), IsL K mg G vs ds → IsL K mg G (vs.take n) (ds.take n)
  | _, _, 0, _ => by simp; exact .nil
  | _, _, _ + 1, .nil => .nil
  | _, _, n + 1, .cons a r => .cons a (IsL.take n r)
theorem IsL.drop : ∀ {vs : List V} {ds : List D} (n : Nat), IsL K mg G vs ds → IsL K mg G (vs.drop n) (ds.drop n)
  | _, _, 0, r => r
  | _, _, _ + 1, .nil => .nil
  | _, _, n + 1, .cons a r => IsL.drop n r
theorem IsL.set {v : V} {d : D} (a : Is K mg G v d) : ∀ {vs : List V} {ds : List D} (i : Nat), IsL K mg G vs ds → IsL K mg G (vs.set i v) (ds.set i d)
  | _, _, _, .nil => .nil
  | _, _, 0, .cons _ r => .cons a r
  | _, _, i + 1, .cons b r => .cons b (IsL.set a i r)
theorem IsL.reverse {vs : List V} {ds : List D} (r : IsL K mg G vs ds) : IsL K mg G vs.reverse ds.reverse := by
  induction vs generalizing ds with
  | nil => cases r; exact .nil
  | cons v vs ih =>
    cases r with
    | cons a r => rw [List.reverse_cons, List.reverse_cons]; exact (ih r).append (.cons a .nil)
theorem IsL.rep {v : V} {d : D} (a : Is K mg G v d) : ∀ n, IsL K mg G (List.replicate n v) (List.replicate n d)
  | 0 => .nil
  | n + 1 => .cons a (IsL.rep a n)
theorem IsL.flatRep {vs : List V} {ds : List D} (r : IsL K mg G vs ds) : ∀ n, IsL K mg G (List.replicate n vs).flatten (List.replicate n ds).flatten
  | 0 => .nil
  | n + 1 => by
    rw [List.replicate_succ, List.replicate_succ, List.flatten_cons, List.flatten_cons]
    exact r.append (IsL.flatRep r n)
/-! ### what a datum's value must be -/
theorem Is.int_of {v : V} {i : Int} (h : Is K mg G v (.int i)) : v = .int i := by cases h; rfl
theorem Is.bool_of {v : V} {b : Bool} (h : Is K mg G v (.bool b)) : v = .bl b := by cases h; rfl
theorem Is.str_of {v : V} {x : Str} (h : Is K mg G v (.str x)) : v = .str x := by cases h; rfl
theorem Is.none_of {v : V} (h : Is K mg G v .none) : v = .non := by cases h; rfl
theorem Is.list_of {v : V} {ds : List D} (h : Is K mg G v (.list ds)) : ∃ a xs, v = .ref a ∧ Rd G a (.lst xs) ∧ IsL K mg G xs ds := by
  cases h with
  | lst h r => exact ⟨_, _, rfl, h, r⟩
theorem Is.tuple_of {v : V} {ds : List D} (h : Is K mg G v (.tuple ds)) : ∃ a xs, v = .ref a ∧ SqT K G a xs ∧ IsL K mg G xs ds := by
  cases h with
  | tup h r => exact ⟨_, _, rfl, h, r⟩
theorem Is.dp : ∀ {n : Nat} {v : V} {d : D}, Is K mg G v d → pl n d = true → Dp K G v d
  | _, _, _, .non, _ => .non
  | _, _, _, .bl b, _ => .bl b
  | _, _, _, .int i, _ => .int i
  | _, _, _, .str x, _ => .str x
  | 0, _, _, .lst h r, p => by simp [pl] at p
  | 0, _, _, .tup h r, p => by simp [pl] at p
  | n + 1, _, _, .lst (xs := xs) (ds := ds) h r, p => .lst (.inl h) (by
    have p' : ds.all (pl n) = true := p
    clear p h
    induction xs generalizing ds with
    | nil => cases r; exact .nil
    | cons x xs ih =>
      cases r with
      | cons a r =>
        rw [List.all_cons, Bool.and_eq_true] at p'
        exact .cons (Is.dp a p'.1) (ih _ r p'.2))
  | n + 1, _, _, .tup (xs := xs) (ds := ds) h r, p => .tup h (by
    have p' : ds.all (pl n) = true := p
    clear p h
    induction xs generalizing ds with
    | nil => cases r; exact .nil
    | cons x xs ih =>
      cases r with
      | cons a r =>
        rw [List.all_cons, Bool.and_eq_true] at p'
        exact .cons (Is.dp a p'.1) (ih _ r p'.2))
  | 0, _, _, .dK _ _, p => by simp [pl] at p
  | 0, _, _, .dT _ _, p => by simp [pl] at p
  | 0, _, _, .fn _, p => by simp [pl] at p
  | 0, _, _, .lam _ _ _, p => by simp [pl] at p
  | _ + 1, _, _, .dK _ _, p => by simp [pl] at p
  | _ + 1, _, _, .dT _ _, p => by simp [pl] at p
  | _ + 1, _, _, .fn _, p => by simp [pl] at p
  | _ + 1, _, _, .lam _ _ _, p => by simp [pl] at p
theorem pl_shape : ∀ {n : Nat} {d : D}, pl n d = true → d.canLay0 = true ∧ d.depth ≤ n
  | 0, d, h => by
    cases d <;> simp [pl] at h <;> simp [PyData.canLay0, PyData.depth, h]
  | n + 1, d, h => by
    have all : ∀ xs : List D, xs.all (pl n) = true → PyData.canLayAll0 xs = true ∧ PyData.depthAll xs ≤ n := by
      intro xs
      induction xs with
      | nil => intro _; simp [PyData.canLayAll0, PyData.depthAll]
      | cons x xs ih =>
        intro q
        rw [List.all_cons, Bool.and_eq_true] at q
        have a := pl_shape q.1
        have b := ih q.2
        simp only [PyData.canLayAll0, PyData.depthAll, a.1, b.1, Bool.and_self, true_and]
        omega
    cases d with
    | list xs =>
      have q := all xs h
      simp only [PyData.canLay0, PyData.depth, q.1, true_and]
      omega
    | tuple xs =>
      have q := all xs h
      simp only [PyData.canLay0, PyData.depth, q.1, true_and]
      omega
    | dict _ => simp [pl] at h
    | str x =>
      have q : PyData.strOk x = true := h
      simp [PyData.canLay0, PyData.depth, q]
    | _ => simp [PyData.canLay0, PyData.depth]
theorem pl_shaped {d : D} (h : pl 60 d = true) : SeqAt.shaped d = true := by
  obtain ⟨a, b⟩ := pl_shape h
  unfold SeqAt.shaped
  rw [a, Bool.true_and]
  exact decide_eq_true (by omega)
end
/-! ### owned trees -/
abbrev Ad := Addr → Prop
def AllP (P : V → D → Ad → Prop) : List V → List D → Ad → Prop
  | [], [], F => ∀ a, ¬ F a
  | v :: vs, d :: ds, F => ∃ F1 F2, P v d F1 ∧ AllP P vs ds F2 ∧ (∀ a, F1 a → F2 a → False) ∧ ∀ a, F a ↔ F1 a ∨ F2 a
  | _, _, _ => False
/-- a container that may be written: what stands at a -/
def Box (H : Hp) (a : Addr) (d : D) (all : List V → List D → Prop) : Prop :=
  (∃ vs ds, H a = some (.lst vs) ∧ d = .list ds ∧ all vs ds) ∨
  (∃ (kvs : List (Key × V)) (ds : List D), H a = some (.dK kvs) ∧ d = .dict ((kvs.map fun p => kD p.1).zip ds) ∧ all (kvs.map (·.2)) ds) ∨
  (∃ (kvs : List (List Key × V)) (ds : List D), H a = some (.dT kvs) ∧ d = .dict ((.bool true, .none) :: (kvs.map fun p => tD p.1).zip ds) ∧ all (kvs.map (·.2)) ds)
def Ow (K : PySem.W.Frag) (mg : Str → Option Value) (G H : Hp) : Nat → V → D → Ad → Prop
  | 0, v, d, F => Is K mg G v d ∧ ∀ a, ¬ F a
  | n + 1, v, d, F => ∃ a F', v = .ref a ∧ Box H a d (fun vs ds => AllP (Ow K mg G H n) vs ds F') ∧ ¬ F' a ∧ ∀ b, F b ↔ b = a ∨ F' b
section
variable {K : PySem.W.Frag} {mg : Str → Option Value} {G G' H H' : Hp}
theorem AllP.mono {P Q : V → D → Ad → Prop} : ∀ {vs : List V} {ds : List D} {F : Ad}, AllP P vs ds F → (∀ v d F1, (∀ a, F1 a → F a) → P v d F1 → Q v d F1) → AllP Q vs ds F
  | [], [], _, h, _ => h
  | v :: vs, d :: ds, F, ⟨F1, F2, h1, h2, h3, h4⟩, k => ⟨F1, F2, k _ _ _ (fun a q => (h4 a).mpr (.inl q)) h1, h2.mono fun v d F3 q => k v d F3 fun a z => (h4 a).mpr (.inr (q a z)), h3, h4⟩
theorem Box.mono {a : Addr} {d : D} {p q : List V → List D → Prop} (h : Box H a d p) (e : ∀ o, H a = some o → NT o → H' a = some o) (k : ∀ vs ds, p vs ds → q vs ds) : Box H' a d q := by
  rcases h with ⟨vs, ds, h1, h2, h3⟩ | ⟨kvs, ds, h1, h2, h3⟩ | ⟨kvs, ds, h1, h2, h3⟩
  · exact .inl ⟨vs, ds, e _ h1 nt_lst, h2, k _ _ h3⟩
  · exact .inr (.inl ⟨kvs, ds, e _ h1 nt_dK, h2, k _ _ h3⟩)
  · exact .inr (.inr ⟨kvs, ds, e _ h1 nt_dT, h2, k _ _ h3⟩)
/-- an owned tree where its own objects and the frozen ones are as they were -/
theorem Ow.keep (eg : grow G G') : ∀ {n : Nat} {v : V} {d : D} {F : Ad}, Ow K mg G H n v d F → (∀ a o, F a → H a = some o → NT o → H' a = some o) → Ow K mg G' H' n v d F
  | 0, _, _, _, ⟨h, f⟩, _ => ⟨h.up eg, f⟩
  | n + 1, v, d, F, ⟨a, F', e, b, na, hf⟩, k => ⟨a, F', e, b.mono (k a · ((hf a).mpr (.inl rfl))) fun vs ds q => q.mono fun v d F1 s z => Ow.keep eg z fun c o q1 q2 q3 => k c o ((hf c).mpr (.inr (s c q1))) q2 q3, na, hf⟩
theorem Ow.lv : ∀ {n : Nat} {v : V} {d : D} {F : Ad}, Ow K mg G H n v d F → ∀ a, F a → Lv H a
  | 0, _, _, _, ⟨_, f⟩, a, q => absurd q (f a)
  | n + 1, v, d, F, ⟨a, F', e, b, na, hf⟩, c, q => by
    have allp : ∀ {vs : List V} {ds : List D} {F : Ad}, AllP (Ow K mg G H n) vs ds F → ∀ a, F a → Lv H a := by
      intro vs
      induction vs with
      | nil =>
        intro ds F z a q
        cases ds with
        | nil => exact absurd q (z a)
        | cons _ _ => exact z.elim
      | cons v vs ih =>
        intro ds F z a q
        cases ds with
        | nil => exact z.elim
        | cons d ds =>
          obtain ⟨F1, F2, h1, h2, h3, h4⟩ := z
          rcases (h4 a).mp q with q | q
          · exact Ow.lv h1 a q
          · exact ih h2 a q
    rcases (hf c).mp q with rfl | q
    · rcases b with ⟨vs, ds, h1, _⟩ | ⟨kvs, ds, h1, _⟩ | ⟨kvs, ds, h1, _⟩
      · exact .lst h1
      · exact .dK h1
      · exact .dT h1
    · rcases b with ⟨vs, ds, _, _, h3⟩ | ⟨kvs, ds, _, _, h3⟩ | ⟨kvs, ds, _, _, h3⟩ <;> exact allp h3 c q
theorem Ow.live {n : Nat} {v : V} {d : D} {F : Ad} (h : Ow K mg G H n v d F) : ∀ a, F a → H a ≠ none := fun a q => (h.lv a q).ne
/-- an owned tree, frozen -/
theorem Ow.is (eg : grow G G') : ∀ {n : Nat} {v : V} {d : D} {F : Ad}, Ow K mg G H n v d F → (∀ a o, F a → H a = some o → NT o → G' a = some o) → Is K mg G' v d
  | 0, _, _, _, ⟨h, f⟩, _ => h.up eg
  | n + 1, v, d, F, ⟨a, F', e, b, na, hf⟩, k => by
    have allp : ∀ {vs : List V} {ds : List D} {F1 : Ad}, (∀ a, F1 a → F a) → AllP (Ow K mg G H n) vs ds F1 → IsL K mg G' vs ds := by
      intro vs
      induction vs with
      | nil =>
        intro ds F1 s z
        cases ds with
        | nil => exact .nil
        | cons _ _ => exact z.elim
      | cons v vs ih =>
        intro ds F1 s z
        cases ds with
        | nil => exact z.elim
        | cons d ds =>
          obtain ⟨F1, F2, h1, h2, h3, h4⟩ := z
          exact .cons (Ow.is eg h1 fun c o q1 q2 q3 => k c o (s c ((h4 c).mpr (.inl q1))) q2 q3) (ih (fun c q => s c ((h4 c).mpr (.inr q))) h2)
    subst e
    have ka := fun o => k a o ((hf a).mpr (.inl rfl))
    rcases b with ⟨vs, ds, h1, rfl, h3⟩ | ⟨kvs, ds, h1, rfl, h3⟩ | ⟨kvs, ds, h1, rfl, h3⟩
    · exact .lst (.inl (ka _ h1 nt_lst)) (allp (fun c q => (hf c).mpr (.inr q)) h3)
    · exact .dK (ka _ h1 nt_dK) (allp (fun c q => (hf c).mpr (.inr q)) h3)
    · exact .dT (ka _ h1 nt_dT) (allp (fun c q => (hf c).mpr (.inr q)) h3)
/-- a level less -/
theorem AllP.of_is : ∀ {vs : List V} {ds : List D}, IsL K mg G vs ds → AllP (Ow K mg G H 0) vs ds (fun _ => False)
  | _, _, .nil => fun _ q => q
  | _, _, .cons a r => ⟨fun _ => False, fun _ => False, ⟨a, fun _ q => q⟩, AllP.of_is r, fun _ q => q.elim, fun _ => ⟨fun q => q.elim, fun q => q.elim (fun z => z) fun z => z⟩⟩
theorem AllP.is : ∀ {vs : List V} {ds : List D} {F : Ad}, AllP (Ow K mg G H 0) vs ds F → IsL K mg G vs ds ∧ ∀ a, ¬ F a
  | [], [], _, h => ⟨.nil, h⟩
  | v :: vs, d :: ds, F, ⟨F1, F2, ⟨h1, f1⟩, h2, h3, h4⟩ => by
    obtain ⟨q1, q2⟩ := AllP.is h2
    exact ⟨.cons h1 q1, fun a q => ((h4 a).mp q).elim (f1 a) (q2 a)⟩
end
/-! ### the state -/
/-- what is fixed through a def's body: the written part; what is the callers'; the slots that are given back, their values and depths; the exceptions' classes; the modes at which exceptions may leave, what is wanted of one -/
structure Cd where
  K : PySem.W.Frag
  mg : Str → Option Value
  M : Ad
  io : List Nat
  iv : Nat → V
  dp : Nat → Nat
  ex : Str → Addr → Str → Prop
  em : List Mode → Prop
  E : WX
  rk : Kd
  ro : List Nat
  px : Option (Addr × Str × D)
abbrev Fp := Nat → Ad
def own (M : Ad) (fp : Fp) : Ad := fun a => M a ∨ ∃ i, fp i a
def isOw (m : List Mode) (i : Nat) : Prop := ∃ n, m[i]? = some (.ow n)
def SlotOk (K : PySem.W.Frag) (mg : Str → Option Value) (G H : Hp) : Option Mode → V → D → Ad → Prop
  | some .fz, v, d, _ => Is K mg G v d
  | some (.ow n), v, d, F => Ow K mg G H n v d F
  | _, _, _, _ => False
/-- a caught exception's dict -/
def PxOk (K : PySem.W.Frag) (mg : Str → Option Value) (G : Hp) : Option (Addr × Str × D) → Prop
  | none => True
  | some (dd, f, d) => ∃ v, G dd = some (.xd [(f, v)]) ∧ Is K mg G v d
theorem PxOk.up {K : PySem.W.Frag} {mg : Str → Option Value} {G G' : Hp} (g : Dn.grow G G') : ∀ {o : Option (Addr × Str × D)}, PxOk K mg G o → PxOk K mg G' o
  | none, _ => trivial
  | some (dd, f, d), ⟨v, h1, h2⟩ => ⟨v, g _ _ h1 nt_xd, h2.up g⟩
structure Rep (C : Cd) (m : List Mode) (ρ : Env) (σ : L2.St) (H : Hp) (fp : Fp) : Prop where
  slot : ∀ i d, ρ[i]? = some (some d) → ∃ v, σ[i]? = some (some v) ∧ SlotOk C.K C.mg (hide (own C.M fp) H) H m[i]? v d (fp i)
  len : ρ.length = σ.length
  dis : ∀ i j a, fp i a → fp j a → i = j
  non : ∀ i, ¬ isOw m i → ∀ a, ¬ fp i a
  msk : ∀ i a, fp i a → ¬ C.M a
  lv : ∀ a, own C.M fp a → Lv H a
  io : ∀ i, i ∈ C.io → σ[i]? = some (some (C.iv i))
  px : PxOk C.K C.mg (hide (own C.M fp) H) C.px
  tab : LamX.Tabs LamTab.tabs H
theorem Rep.live {C : Cd} {m : List Mode} {ρ : Env} {σ : L2.St} {H : Hp} {fp : Fp} (R : Rep C m ρ σ H fp) : ∀ a, own C.M fp a → H a ≠ none := fun a q => (R.lv a q).ne
theorem Lv.gr {H H' : Hp} {a : Addr} (g : grow H H') (h : Lv H a) : Lv H' a := let ⟨o, e, p⟩ := h; ⟨o, g a o e p.1, p⟩
/-- from a state to a later one -/
structure Evo (fp : Fp) (H : Hp) (fp' : Fp) (H' : Hp) : Prop where
  keep : ∀ b o, H b = some o → NT o → (∀ i, ¬ fp i b) → H' b = some o
  new : ∀ i a, fp' i a → (∃ j, fp j a) ∨ H a = none
  there : ∀ b, H b ≠ none → H' b ≠ none
  tb : Tb H H'
theorem Evo.refl {fp : Fp} {H : Hp} : Evo fp H fp H := ⟨fun _ _ e _ _ => e, fun i _ q => .inl ⟨i, q⟩, fun _ e => e, .refl⟩
theorem Evo.trans {fp fp1 fp2 : Fp} {H H1 H2 : Hp} (a : Evo fp H fp1 H1) (b : Evo fp1 H1 fp2 H2) : Evo fp H fp2 H2 where
  keep := fun c o e nt n => b.keep c o (a.keep c o e nt n) nt fun i q => by
    rcases a.new i c q with ⟨j, z⟩ | z
    · exact n j z
    · rw [e] at z; cases z
  new := fun i c q => by
    rcases b.new i c q with ⟨j, z⟩ | z
    · exact a.new j c z
    · exact .inr (Classical.byContradiction fun n => a.there c n z)
  there := fun c e => b.there c (a.there c e)
  tb := a.tb.trans b.tb
theorem Evo.grow {fp : Fp} {H H' : Hp} (g : Gr H H') : Evo fp H fp H' := ⟨fun _ _ e nt _ => g.g _ _ e nt, fun i _ q => .inl ⟨i, q⟩, g.there, g.t⟩
/-- what is frozen stays -/
theorem Evo.fz {M : Ad} {fp fp' : Fp} {H H' : Hp} (a : Evo fp H fp' H') (hm : ∀ a, M a → H a ≠ none) : Dn.grow (hide (own M fp) H) (hide (own M fp') H') := fun b o e nt => by
  obtain ⟨n, e⟩ := hide_at e
  refine hide_of (fun q => ?_) (a.keep b o e nt fun i q => n (.inr ⟨i, q⟩))
  rcases q with q | ⟨i, q⟩
  · exact n (.inl q)
  · rcases a.new i b q with ⟨j, z⟩ | z
    · exact n (.inr ⟨j, z⟩)
    · rw [e] at z; cases z
/-- a result (H0: the heap ahead) -/
def Res (C : Cd) (k : Kd) (H0 H : Hp) (fp : Fp) (v : V) (d : D) (F : Ad) : Prop := match k with
  | .fz => Is C.K C.mg (hide (own C.M fp) H) v d ∧ ∀ a, ¬ F a
  | .new n => Ow C.K C.mg (hide (fun a => own C.M fp a ∨ F a) H) H n v d F ∧ (∀ a, F a → ¬ own C.M fp a) ∧ ∀ a, F a → H0 a = none
  | .bor n => Ow C.K C.mg (hide (own C.M fp) H) H n v d F ∧ ∀ a, F a → ∃ i, fp i a
/-- .. with more that is not to be touched -/
def Cd.plus (C : Cd) (F : Ad) : Cd := { C with M := fun a => C.M a ∨ F a }
/-- the state beside a result: a new one is nobody's yet -/
def RepK (C : Cd) (k : Kd) (F : Ad) (m : List Mode) (ρ : Env) (σ : L2.St) (H : Hp) (fp : Fp) : Prop := match k with
  | .new _ => Rep (C.plus F) m ρ σ H fp
  | _ => Rep C m ρ σ H fp
/-- q: the state is as it was but for new objects -/
def Qt (q : Bool) (ρ ρ' : Env) (fp fp' : Fp) (H H' : Hp) : Prop := q = true → ρ' = ρ ∧ fp' = fp ∧ Gr H H'
def Errs (C : Cd) (c : Str) (d : D) (ρ' : Env) (fp : Fp) (H : Hp) : Prop :=
  ∀ m' σ' H' fp' (Cc : Addr) (fld : Str) (dd : Addr) (v : V), C.em m' → C.ex c Cc fld → Rep C m' ρ' σ' H' fp' → Evo fp H fp' H' → ¬ own C.M fp' dd → H dd = none → H' dd = some (.xd [(fld, v)]) → Is C.K C.mg (hide (own C.M fp') H') v d → C.E (.ref Cc) (some dd) σ' H'
theorem Errs.later {C : Cd} {c : Str} {d : D} {ρ' : Env} {fp fp1 : Fp} {H H1 : Hp} (h : Errs C c d ρ' fp H) (e : Evo fp H fp1 H1) : Errs C c d ρ' fp1 H1 := fun m' σ' H' fp' Cc fld dd v a b r e' no n x i =>
  h m' σ' H' fp' Cc fld dd v a b r (e.trans e') no (Classical.byContradiction fun z => e.there dd z n) x i
/-- what is wanted of an end -/
def Pst {α : Type} (C : Cd) (fp : Fp) (H : Hp) (k : α → Env → Prop) : Out α → Prop
  | .ok a ρ' => k a ρ'
  | .err c d ρ' => Errs C c d ρ' fp H
  | .stuck => False
section
variable {α β : Type} {C : Cd} {fp fp1 : Fp} {H H1 : Hp}
theorem Pst.bnd {k : β → Env → Prop} {x : M α} {g : α → M β} {ρ : Env} (h : Pst C fp H k (Dn.bnd x g ρ)) : Pst C fp H (fun a ρ1 => Pst C fp H k (g a ρ1)) (x ρ) := by
  unfold Dn.bnd at h
  cases e : x ρ with
  | ok a ρ1 => rw [e] at h; exact h
  | err c d ρ1 => rw [e] at h; exact h
  | stuck => rw [e] at h; exact h
theorem Pst.imp {k k' : α → Env → Prop} {o : Out α} (h : Pst C fp H k o) (i : ∀ a ρ', k a ρ' → k' a ρ') : Pst C fp H k' o := by
  cases o with
  | ok a ρ' => exact i a ρ' h
  | err c d ρ' => exact h
  | stuck => exact h
theorem Pst.later {k : α → Env → Prop} {o : Out α} (h : Pst C fp H k o) (e : Evo fp H fp1 H1) : Pst C fp1 H1 k o := by
  cases o with
  | ok a ρ' => exact h
  | err c d ρ' => exact Errs.later h e
  | stuck => exact h
theorem Pst.lft {k : α → Env → Prop} {o : Option α} {ρ : Env} (h : Pst C fp H k (Dn.lft o ρ)) : ∃ a, o = some a ∧ k a ρ := by
  cases o with
  | some a => exact ⟨a, rfl, h⟩
  | none => exact h.elim
end
/-- an expression's promise, by what it computes -/
def tE (C : Cd) (m : List Mode) (q : Bool) (k : Kd) (f : M D) : TE := fun σ H Q => ∃ ρ fp, Rep C m ρ σ H fp ∧
  Pst C fp H (fun d ρ' => ∀ v H' fp' F, RepK C k F m ρ' σ H' fp' → Evo fp H fp' H' → Qt q ρ ρ' fp fp' H H' → Res C k H H' fp' v d F → Q v H') (f ρ)
def tT (C : Cd) (m : List Mode) (q : Bool) (f : M Bool) : TT := fun σ H Q => ∃ ρ fp, Rep C m ρ σ H fp ∧
  Pst C fp H (fun b ρ' => ∀ H' fp', Rep C m ρ' σ H' fp' → Evo fp H fp' H' → Qt q ρ ρ' fp fp' H H' → Q b H') (f ρ)
def tA (C : Cd) (m : List Mode) (q : Bool) (f : M (List D)) : TA := fun σ H Q => ∃ ρ fp, Rep C m ρ σ H fp ∧
  Pst C fp H (fun ds ρ' => ∀ vs H' fp', Rep C m ρ' σ H' fp' → Evo fp H fp' H' → Qt q ρ ρ' fp fp' H H' → IsL C.K C.mg (hide (own C.M fp') H') vs ds → Q vs H') (f ρ)
/-- a statement's ways out, by its modes behind it (next, break, continue) -/
def SK (C : Cd) (mn mb mc : List Mode) (D : Ends) (fp : Fp) (H : Hp) : Flow → Env → Prop
  | .next, ρ' => ∀ σ' H' fp', Rep C mn ρ' σ' H' fp' → Evo fp H fp' H' → D.nx σ' H'
  | .brk, ρ' => ∀ σ' H' fp', Rep C mb ρ' σ' H' fp' → Evo fp H fp' H' → D.bk σ' H'
  | .cont, ρ' => ∀ σ' H' fp', Rep C mc ρ' σ' H' fp' → Evo fp H fp' H' → D.ct σ' H'
  | .rt d, ρ' => ∀ v m' σ' H' fp' F, RepK C C.rk F m' ρ' σ' H' fp' → (∀ i, i ∈ C.ro → m'[i]? = some (.ow (C.dp i))) → Evo fp H fp' H' → Res C C.rk H H' fp' v d F → D.rt v H'
def tS (C : Cd) (m mn mb mc : List Mode) (s : S) : TS := fun D σ H => ∃ ρ fp, Rep C m ρ σ H fp ∧ Pst C fp H (SK C mn mb mc D fp H) (s ρ)
theorem PE.imp {X : Cx} {e : Expr} {t t' : TE} (h : PE X e t) (i : ∀ σ H Q, t' σ H Q → t σ H Q) : PE X e t' := ⟨fun pins s σ H Q I q => h.run pins s σ H Q I (i σ H Q q)⟩
theorem PT.imp {X : Cx} {e : Expr} {t t' : TT} (h : PT X e t) (i : ∀ σ H Q, t' σ H Q → t σ H Q) : PT X e t' := ⟨fun pins s σ H Q I q => h.run pins s σ H Q I (i σ H Q q)⟩
theorem PA.imp {X : Cx} {e : List Expr} {t t' : TA} (h : PA X e t) (i : ∀ σ H Q, t' σ H Q → t σ H Q) : PA X e t' := ⟨fun pos pins s σ H Q I q => h.run pos pins s σ H Q I (i σ H Q q)⟩
theorem PS.imp {X : Cx} {e : Stmt} {t t' : TS} (h : PS X e t) (i : ∀ D σ H, t' D σ H → t D σ H) : PS X e t' := ⟨fun pins s σ H D I q => h.run pins s σ H D I (i D σ H q)⟩
theorem PSs.imp {X : Cx} {e : List Stmt} {t t' : TS} (h : PSs X e t) (i : ∀ D σ H, t' D σ H → t D σ H) : PSs X e t' := ⟨fun pins s σ H D I q => h.run pins s σ H D I (i D σ H q)⟩
end Dn

/-! DnC -/
set_option Elab.async false
set_option linter.all false
set_option maxRecDepth 100000
/-! Dn, part C: expressions. -/
namespace Dn
open PySem PySem.Spec PyProof.Rows L2
variable [LamTab]
/-- the context of the code and what is fixed go together -/
structure Agr (X : Cx) (C : Cd) : Prop where
  K : X.K = C.K
  mg : X.mg = C.mg
  nd : X.N.Nodup
  tk : Takes X C.E
  hu : X.A.units + 65 < cLine
  gd : X.A.guards = some []
theorem hide_up {O : Ad} {H H' : Hp} (g : grow H H') : grow (hide O H) (hide O H') := fun b o e nt => by
  obtain ⟨n, e⟩ := hide_at e
  exact hide_of n (g b o e nt)
theorem hide_less {O O' : Ad} {H : Hp} (h : ∀ a, O' a → O a) : grow (hide O H) (hide O' H) := fun b o e _ => by
  obtain ⟨n, e⟩ := hide_at e
  exact hide_of (fun q => n (h b q)) e
section
variable {K : PySem.W.Frag} {mg : Str → Option Value} {G G' H H' : Hp} {C : Cd} {m : List Mode} {ρ ρ' ρ1 : Env} {σ : L2.St} {fp fp' fp1 : Fp}
theorem SlotOk.keep {md : Option Mode} {v : V} {d : D} {F : Ad} (h : SlotOk K mg G H md v d F) (g : grow G G') (k : ∀ a o, F a → H a = some o → NT o → H' a = some o) : SlotOk K mg G' H' md v d F := by
  match md, h with
  | some .fz, h => exact Is.up g h
  | some (.ow n), h => exact Ow.keep g h k
theorem Rep.ml (R : Rep C m ρ σ H fp) : ∀ a, C.M a → H a ≠ none := fun a q => R.live a (.inl q)
theorem Rep.stay (R : Rep C m ρ σ H fp) (g : Gr H H') : Rep C m ρ σ H' fp where
  slot := fun i d e => by
    obtain ⟨v, h1, h2⟩ := R.slot i d e
    exact ⟨v, h1, h2.keep (hide_up g.g) fun a o _ q nt => g.g a o q nt⟩
  len := R.len
  dis := R.dis
  non := R.non
  msk := R.msk
  lv := fun a q => (R.lv a q).gr g.g
  io := R.io
  px := R.px.up (hide_up g.g)
  tab := g.t R.tab
theorem Rep.drop {F : Ad} (R : Rep (C.plus F) m ρ σ H fp) : Rep C m ρ σ H fp where
  slot := fun i d e => by
    obtain ⟨v, h1, h2⟩ := R.slot i d e
    exact ⟨v, h1, h2.keep (hide_less fun a q => q.elim (fun z => .inl (.inl z)) .inr) fun a o _ q _ => q⟩
  len := R.len
  dis := R.dis
  non := R.non
  msk := fun i a q z => R.msk i a q (.inl z)
  lv := fun a q => R.lv a (q.elim (fun z => .inl (.inl z)) .inr)
  io := R.io
  px := R.px.up (hide_less fun a q => q.elim (fun z => .inl (.inl z)) .inr)
  tab := R.tab
/-- with a new result beside -/
theorem Rep.fresh {F : Ad} (R : Rep C m ρ σ H fp) (g : Gr H H') (n : ∀ a, F a → H a = none) (l : ∀ a, F a → Lv H' a) : Rep (C.plus F) m ρ σ H' fp where
  slot := fun i d e => by
    obtain ⟨v, h1, h2⟩ := R.slot i d e
    refine ⟨v, h1, h2.keep (fun b o z nt => ?_) fun a o _ q nt => g.g a o q nt⟩
    obtain ⟨z1, z2⟩ := hide_at z
    refine hide_of (fun y => ?_) (g.g b o z2 nt)
    rcases y with (y | y) | y
    · exact z1 (.inl y)
    · rw [n b y] at z2; cases z2
    · exact z1 (.inr y)
  len := R.len
  dis := R.dis
  non := R.non
  msk := fun i a q z => z.elim (R.msk i a q) fun y => R.live a (.inr ⟨i, q⟩) (n a y)
  lv := fun a q => by
    have old : own C.M fp a → Lv H' a := fun q => (R.stay g).lv a q
    rcases q with (q | q) | q
    · exact old (.inl q)
    · exact l a q
    · exact old (.inr q)
  io := R.io
  px := R.px.up fun b o z nt => by
    obtain ⟨z1, z2⟩ := hide_at z
    refine hide_of (fun y => ?_) (g.g b o z2 nt)
    rcases y with (y | y) | y
    · exact z1 (.inl y)
    · rw [n b y] at z2; cases z2
    · exact z1 (.inr y)
  tab := g.t R.tab
theorem RepK.rep {k : Kd} {F : Ad} (R : RepK C k F m ρ σ H fp) : Rep C m ρ σ H fp := by
  cases k with
  | fz => exact R
  | new n => exact Rep.drop R
  | bor n => exact R
theorem Qt.refl {q : Bool} {ρ : Env} {fp : Fp} {H : Hp} : Qt q ρ ρ fp fp H H := fun _ => ⟨rfl, rfl, Gr.refl⟩
theorem Qt.gr {q : Bool} {ρ : Env} {fp : Fp} {H H' : Hp} (g : Gr H H') : Qt q ρ ρ fp fp H H' := fun _ => ⟨rfl, rfl, g⟩
theorem Qt.trans {q q' : Bool} {ρ ρ1 ρ2 : Env} {fp fp1 fp2 : Fp} {H H1 H2 : Hp} (a : Qt q ρ ρ1 fp fp1 H H1) (b : Qt q' ρ1 ρ2 fp1 fp2 H1 H2) : Qt (q && q') ρ ρ2 fp fp2 H H2 := fun e => by
  simp only [Bool.and_eq_true] at e
  obtain ⟨a1, a2, a3⟩ := a e.1
  obtain ⟨b1, b2, b3⟩ := b e.2
  exact ⟨b1.trans a1, b2.trans a2, a3.trans b3⟩
theorem Qt.and {q q' : Bool} {ρ ρ1 : Env} {fp fp1 : Fp} {H H1 : Hp} (a : Qt q ρ ρ1 fp fp1 H H1) : Qt (q && q') ρ ρ1 fp fp1 H H1 := fun e => by
  simp only [Bool.and_eq_true] at e
  exact a e.1
theorem Qt.grw {q : Bool} {ρ ρ1 : Env} {fp fp1 : Fp} {H H1 H2 : Hp} (a : Qt q ρ ρ1 fp fp1 H H1) (g : Gr H1 H2) : Qt q ρ ρ1 fp fp1 H H2 := fun e => by
  obtain ⟨a1, a2, a3⟩ := a e
  exact ⟨a1, a2, a3.trans g⟩
/-- a result as it may be read -/
theorem Res.rd {k : Kd} {H0 : Hp} {v : V} {d : D} {F : Ad} (R : Rep C m ρ σ H fp) (r : Res C k H0 H fp v d F) : Is C.K C.mg (hide C.M H) v d := by
  have g : grow (hide (own C.M fp) H) (hide C.M H) := hide_less fun a q => .inl q
  match k, r with
  | .fz, r => exact r.1.up g
  | .new n, ⟨r1, r2, _⟩ => exact r1.is (hide_less fun a q => .inl (.inl q)) fun a o q e _ => hide_of (fun z => r2 a q (.inl z)) e
  | .bor n, ⟨r1, r2⟩ => exact r1.is g fun a o q e _ => hide_of (fun z => let ⟨i, y⟩ := r2 a q; R.msk i a y z) e
/-- a frozen one at a later state -/
theorem Res.fzl {v : V} {d : D} (R : Rep C m ρ σ H fp) (e : Evo fp H fp' H') (r : Is C.K C.mg (hide (own C.M fp) H) v d) : Is C.K C.mg (hide (own C.M fp') H') v d := r.up (e.fz R.ml)
end
/-! ### kinds -/
section
variable {X : Cx} {C : Cd} {m : List Mode} {q q' : Bool} {e : Expr}
theorem pd_fz {n : Nat} {f : M D} (h : PE X e (tE C m q (.new n) f)) : PE X e (tE C m q .fz f) := PE.imp h fun σ H Q ⟨ρ, fp, R, p⟩ => ⟨ρ, fp, R, p.imp fun d ρ' k v H' fp' F R' ev qt r =>
  k v H' fp' (fun _ => False) R'.rep ev qt ⟨r.1.is (hide_less fun a z => .inl z) fun a o z y _ => hide_of (r.2.1 a z) y, fun _ z => z⟩⟩
theorem pd_b0 {f : M D} (h : PE X e (tE C m q (.bor 0) f)) : PE X e (tE C m q .fz f) := PE.imp h fun σ H Q ⟨ρ, fp, R, p⟩ => ⟨ρ, fp, R, p.imp fun d ρ' k v H' fp' F R' ev qt r =>
  k v H' fp' F R' ev qt ⟨r.1.1, r.1.2⟩⟩
theorem Qt.less {q : Bool} {ρ ρ1 : Env} {fp fp1 : Fp} {H H1 : Hp} (a : Qt true ρ ρ1 fp fp1 H H1) : Qt q ρ ρ1 fp fp1 H H1 := fun _ => a rfl
/-- what is quiet may be taken for not quiet -/
theorem pd_loud {k : Kd} {f : M D} (h : PE X e (tE C m true k f)) : PE X e (tE C m q k f) := PE.imp h fun σ H Q ⟨ρ, fp, R, p⟩ => ⟨ρ, fp, R, p.imp fun d ρ' kk v H' fp' F R' ev qt r => kk v H' fp' F R' ev qt.less r⟩
/-! ### names, constants -/
theorem pd_var {i : Nat} {x : Str} {pos : Pos} (hm : m[i]? = some .fz) (hN : X.N[i]? = some x := by rfl) (hv : Vis X.env.scope x := by first | exact Or.inl rfl | exact Or.inr (Or.inl rfl) | exact Or.inr (Or.inr rfl))
    (hd : (x == ("__debug__" : Str)) = false := by decide) (hcd : (x == ("__classdict__" : Str)) = false := by decide) : PE X (.Name x pos) (tE C m true .fz (var i)) := PE.imp (pe_var hN hv hd hcd) fun σ H Q ⟨ρ, fp, R, p⟩ => by
  unfold var at p
  cases h : ρ[i]? with
  | none => rw [h] at p; exact p.elim
  | some o =>
    cases o with
    | none => rw [h] at p; exact p.elim
    | some d =>
      rw [h] at p
      obtain ⟨v, h1, h2⟩ := R.slot i d h
      rw [hm] at h2
      exact ⟨v, h1, p v H fp (fun _ => False) R .refl .refl ⟨h2, fun _ z => z⟩⟩
theorem pd_varB {i n : Nat} {x : Str} {pos : Pos} (hm : m[i]? = some (.ow n)) (hN : X.N[i]? = some x := by rfl) (hv : Vis X.env.scope x := by first | exact Or.inl rfl | exact Or.inr (Or.inl rfl) | exact Or.inr (Or.inr rfl))
    (hd : (x == ("__debug__" : Str)) = false := by decide) (hcd : (x == ("__classdict__" : Str)) = false := by decide) : PE X (.Name x pos) (tE C m true (.bor n) (var i)) := PE.imp (pe_var hN hv hd hcd) fun σ H Q ⟨ρ, fp, R, p⟩ => by
  unfold var at p
  cases h : ρ[i]? with
  | none => rw [h] at p; exact p.elim
  | some o =>
    cases o with
    | none => rw [h] at p; exact p.elim
    | some d =>
      rw [h] at p
      obtain ⟨v, h1, h2⟩ := R.slot i d h
      rw [hm] at h2
      exact ⟨v, h1, p v H fp (fp i) R .refl .refl ⟨h2, fun a z => ⟨i, z⟩⟩⟩
theorem lit_use {d : D} {v : V} {σ : L2.St} {H : Hp} {Q : VK} (hv : ∀ G, Is C.K C.mg G v d) (h : tE C m true .fz (lit d) σ H Q) : Q v H := by
  obtain ⟨ρ, fp, R, p⟩ := h
  exact p v H fp (fun _ => False) R .refl .refl ⟨hv _, fun _ z => z⟩
theorem pd_int {i : Int} {j pos} : PE X (.Constant (.int i) j pos) (tE C m true .fz (lit (.int i))) := PE.imp pe_int fun _ _ _ h => lit_use (fun _ => .int i) h
theorem pd_bl {b : Bool} {j pos} : PE X (.Constant (.bool b) j pos) (tE C m true .fz (lit (.bool b))) := PE.imp pe_bl fun _ _ _ h => lit_use (fun _ => .bl b) h
theorem pd_non {j pos} : PE X (.Constant .none j pos) (tE C m true .fz (lit .none)) := PE.imp pe_non fun _ _ _ h => lit_use (fun _ => .non) h
theorem pd_str {x : Str} {j pos} : PE X (.Constant (.str x) j pos) (tE C m true .fz (lit (.str x))) := PE.imp pe_str fun _ _ _ h => lit_use (fun _ => .str x) h
/-- a module's constant -/
theorem pd_gint {x : Str} {i : Int} {pos : Pos} (A : Agr X C) (hg : Gl X x) (hm : ∃ t, C.mg x = some (.int i t)) (hd : (x == ("__debug__" : Str)) = false := by decide) : PE X (.Name x pos) (tE C m true .fz (lit (.int i))) := by
  obtain ⟨t, hm⟩ := hm
  exact PE.imp (pe_glob (v := .int i) hg (by rw [A.mg]; exact hm) ⟨t, rfl⟩ hd) fun _ _ _ h => lit_use (fun _ => .int i) h
theorem pd_gstr {x z : Str} {pos : Pos} (A : Agr X C) (hg : Gl X x) (hm : ∃ t, C.mg x = some (.str z t)) (hd : (x == ("__debug__" : Str)) = false := by decide) : PE X (.Name x pos) (tE C m true .fz (lit (.str z))) := by
  obtain ⟨t, hm⟩ := hm
  exact PE.imp (pe_glob (v := .str z) hg (by rw [A.mg]; exact hm) ⟨t, rfl⟩ hd) fun _ _ _ h => lit_use (fun _ => .str z) h
/-- a def of the module as a value -/
def fnD (x : Str) : D := .dict [(.none, .str x)]
theorem pd_gfn {x : Str} {a : Addr} {pos : Pos} (A : Agr X C) (hg : Gl X x) (hm : C.mg x = some (.ref a)) (hd : (x == ("__debug__" : Str)) = false := by decide) : PE X (.Name x pos) (tE C m true .fz (lit (fnD x))) :=
  PE.imp (pe_glob (v := .ref a) hg (by rw [A.mg]; exact hm) rfl hd) fun _ _ _ h => lit_use (fun _ => .fn hm) h
end
/-! ### operators -/
/-- the operator gives f's value; it may lay new objects -/
def OpD (K : PySem.W.Frag) (mg : Str → Option Value) (r : R2) (f : Op2) : Prop := ∀ (O : Ad) (H : Hp) (x y : V) (d e u : D) (Q : VK), (∀ a, O a → H a ≠ none) → Is K mg (hide O H) x d → Is K mg (hide O H) y e → f d e = some u →
  (∀ v H', Gr H H' → Is K mg (hide O H') v u → Q v H') → r x y H Q
/-- .. it lays none, and its value is no object -/
def OpC (K : PySem.W.Frag) (mg : Str → Option Value) (r : R2) (f : Op2) : Prop := ∀ (G H : Hp) (x y : V) (d e u : D) (Q : VK), grow G H → Is K mg G x d → Is K mg G y e → f d e = some u →
  (∀ v, (∀ G', Is K mg G' v u) → Q v H) → r x y H Q
theorem OpC.d {K : PySem.W.Frag} {mg : Str → Option Value} {r : R2} {f : Op2} (h : OpC K mg r f) : OpD K mg r f := fun O H x y d e u Q _ hx hy hf k => h (hide O H) H x y d e u Q hide_grow hx hy hf fun v hv => k v H Gr.refl (hv _)
theorem OpD.imp {K : PySem.W.Frag} {mg : Str → Option Value} {r : R2} {f g : Op2} (h : OpD K mg r f) (i : ∀ d e u, g d e = some u → f d e = some u) : OpD K mg r g := fun O H x y d e u Q a hx hy hf k => h O H x y d e u Q a hx hy (i _ _ _ hf) k
section
variable {X : Cx} {C : Cd} {m : List Mode} {q q' : Bool} {a b c : Expr} {fa fb fc : M D} {ka kb : Kd} {pos : Pos}
theorem Evo.mono {fp fp1 : Fp} {H H1 H2 : Hp} (e : Evo fp H fp1 H1) (g : Gr H1 H2) : Evo fp H fp1 H2 := e.trans (Evo.grow g)
/-- two values, then an operator of them -/
theorem bin_of {r : R2} {f : Op2} (hf : OpD C.K C.mg r f) {σ : L2.St} {H : Hp} {Q : VK} (h : tE C m (q && q') .fz (bin f fa fb) σ H Q) : tOp r (tE C m q .fz fa) (tE C m q' .fz fb) σ H Q := by
  obtain ⟨ρ, fp, R, p⟩ := h
  refine ⟨ρ, fp, R, p.bnd.imp fun x ρ1 p1 v1 H1 fp1 F1 R1 e1 q1 r1 => ⟨ρ1, fp1, R1.rep, (p1.later e1).bnd.imp fun y ρ2 p2 v2 H2 fp2 F2 R2 e2 q2 r2 => ?_⟩⟩
  obtain ⟨u, hu, k⟩ := p2.lft
  refine hf (own C.M fp2) H2 v1 v2 x y u Q R2.live (r1.1.up (e2.fz R1.ml)) r2.1 hu fun v H3 g i => ?_
  exact k v H3 fp2 (fun _ => False) (R2.stay g) ((e1.trans e2).mono g) ((q1.trans q2).grw g) ⟨i, fun _ z => z⟩
theorem pd_bin {op : Operator} {r : R2} {f : Op2} (hf : OpD C.K C.mg r f) (ho : OpR X (binaryOp op) r) (ha : PE X a (tE C m q .fz fa)) (hb : PE X b (tE C m q' .fz fb)) : PE X (.BinOp a op b pos) (tE C m (q && q') .fz (bin f fa fb)) :=
  PE.imp (pe_op ho ha hb) fun _ _ _ h => bin_of hf h
/-- a comparison of two values, of any kind (the first borrowed: then the second is quiet) -/
theorem cmp_of {r : R2} {f : Op2} (hf : OpC C.K C.mg r f) (hk : ka = .fz ∨ q' = true) {σ : L2.St} {H : Hp} {Q : VK} (h : tE C m (q && q') .fz (bin f fa fb) σ H Q) : tOp r (tE C m q ka fa) (tE C m q' kb fb) σ H Q := by
  obtain ⟨ρ, fp, R, p⟩ := h
  refine ⟨ρ, fp, R, p.bnd.imp fun x ρ1 p1 v1 H1 fp1 F1 R1 e1 q1 r1 => ⟨ρ1, fp1, R1.rep, (p1.later e1).bnd.imp fun y ρ2 p2 v2 H2 fp2 F2 R2 e2 q2 r2 => ?_⟩⟩
  obtain ⟨u, hu, k⟩ := p2.lft
  have i1 : Is C.K C.mg (hide C.M H2) v1 x := by
    rcases hk with rfl | rfl
    · exact (r1.1.up (e2.fz R1.ml)).up (hide_less fun a z => .inl z)
    · exact (r1.rd R1.rep).up (hide_up (q2 rfl).2.2.g)
  refine hf (hide C.M H2) H2 v1 v2 x y u Q hide_grow i1 (r2.rd R2.rep) hu fun v i => ?_
  exact k v H2 fp2 (fun _ => False) R2.rep (e1.trans e2) (q1.trans q2) ⟨i _, fun _ z => z⟩
theorem pd_cmp {op : CmpOp} {r : R2} {f : Op2} (hf : OpC C.K C.mg r f) (ho : OpR X (compareOp op) r) (ha : PE X a (tE C m q ka fa)) (hb : PE X b (tE C m q' kb fb)) (hm : behindInMarks op b = false) (hk : ka = .fz ∨ q' = true := by first | exact .inl rfl | exact .inr rfl) :
    PE X (.Compare a [op] [b] pos) (tE C m (q && q') .fz (bin f fa fb)) :=
  PE.imp (pe_cmpR ho ha hb hm) fun _ _ _ h => cmp_of hf hk h
theorem Is.boolV {K : PySem.W.Frag} {mg : Str → Option Value} {G : Hp} {v : V} {d : D} {k : Bool} (h : Is K mg G v d) (e : boolOf d = some k) : v = .bl k := by
  cases d with
  | bool b => cases e; exact h.bool_of
  | _ => cases e
/-- an expression whose value is a truth value, as a test -/
theorem tb_of {k : Kd} {f : M D} {σ : L2.St} {H : Hp} {Q : Bool → Hp → Prop} (h : tT C m q (testB f) σ H Q) : tE C m q .fz f σ H (fun x H1 => ∃ c, x = .bl c ∧ Q c H1) := by
  obtain ⟨ρ, fp, R, p⟩ := h
  refine ⟨ρ, fp, R, p.bnd.imp fun x ρ1 p1 v1 H1 fp1 F1 R1 e1 q1 r1 => ?_⟩
  obtain ⟨u, hu, k⟩ := p1.lft
  exact ⟨u, r1.1.boolV hu, k H1 fp1 R1 e1 q1⟩
theorem td_cmp {op : CmpOp} {r : R2} {f : Op2} (hf : OpC C.K C.mg r f) (ho : OpR X (compareOp op) r) (ha : PE X a (tE C m q ka fa)) (hb : PE X b (tE C m q' kb fb)) (hm : behindInMarks op b = false) (hk : ka = .fz ∨ q' = true := by first | exact .inl rfl | exact .inr rfl) :
    PT X (.Compare a [op] [b] pos) (tT C m (q && q') (testB (bin f fa fb))) := PT.imp (pt_cmpR ho ha hb hm) fun σ H Q h => by
  have h2 := tb_of (k := .fz) h
  exact cmp_of hf hk h2
/-- any other expression, by its value's truth -/
theorem td_val (A : Agr X C) (ha : PE X a (tE C m q ka fa)) (he : ∀ whole, isTrue a X.env whole = (do let v ← whole; standAt a.pos; holding [v] (truthy v)) := by intro _; rfl) : PT X a (tT C m q (test fa)) := PT.imp (pt_truth ha he) fun σ H Q ⟨ρ, fp, R, p⟩ => by
  refine ⟨ρ, fp, R, p.bnd.imp fun x ρ1 p1 v1 H1 fp1 F1 R1 e1 q1 r1 => ?_⟩
  obtain ⟨u, hu, k⟩ := p1.lft
  refine ⟨u, ?_, k H1 fp1 R1.rep e1 q1⟩
  have i := r1.rd R1.rep
  rw [A.K]
  cases x with
  | none => cases hu; rw [i.none_of]; rfl
  | bool b => cases hu; rw [i.bool_of]; rfl
  | int j => cases hu; rw [i.int_of]; rfl
  | str z =>
    rw [i.str_of]
    simp only [truthD] at hu
    split at hu
    · rename_i hz
      cases hu
      exact ⟨by rw [sizeLine_eq]; exact hz, rfl⟩
    · cases hu
  | list ds =>
    cases hu
    obtain ⟨a, xs, rfl, h1, h2⟩ := i.list_of
    refine .inl ⟨xs, .inl (Rd.up hide_grow h1), ?_⟩
    cases h2 <;> rfl
  | tuple ds =>
    cases hu
    obtain ⟨a, xs, rfl, h1, h2⟩ := i.tuple_of
    refine .inr (.inl ⟨xs, SqT.up hide_grow h1, ?_⟩)
    cases h2 <;> rfl
  | dict _ => cases hu
end
end Dn

/-! DnD -/
set_option Elab.async false
set_option linter.all false
set_option maxRecDepth 100000
/-! Dn, part D: the operators' values; boolean operators; displays; items; slices. -/
namespace Dn
open PySem PySem.Spec PyProof.Rows L2
variable [LamTab]
/-! ### arithmetic -/
/-- only ints of the operator's cases -/
def onI (f : Op2) : Op2 := fun d e => match d, e with
  | .int i, .int j => f (.int i) (.int j)
  | _, _ => none
theorem onI_of {f : Op2} {d e u : D} (h : onI f d e = some u) : ∃ i j, d = .int i ∧ e = .int j ∧ f (.int i) (.int j) = some u := by
  unfold onI at h
  split at h
  · exact ⟨_, _, rfl, rfl, h⟩
  · cases h
section
variable {X : Cx} {K : PySem.W.Frag} {mg : Str → Option Value}
theorem intC {f : Op2} {r : R2} (hr : ∀ (i j : Int) (u : D) (H : Hp) (Q : VK), f (.int i) (.int j) = some u → (∀ v, (∀ G', Is K mg G' v u) → Q v H) → r (.int i) (.int j) H Q) : OpC K mg r (onI f) := fun G H x y d e u Q _ hx hy hf k => by
  obtain ⟨i, j, rfl, rfl, h⟩ := onI_of hf
  rw [hx.int_of, hy.int_of]
  exact hr i j u H Q h k
theorem o_addI : OpC K mg (rI0 fun i j => .int (i + j)) (onI addD) := intC fun i j u H Q h k => by
  cases h
  exact ⟨i, j, rfl, rfl, k _ fun _ => .int _⟩
theorem o_subI : OpC K mg (rI0 fun i j => .int (i - j)) (onI subD) := intC fun i j u H Q h k => by
  cases h
  exact ⟨i, j, rfl, rfl, k _ fun _ => .int _⟩
/-- both products: a small factor, or wide ones -/
def rMulA : R2 := fun x y H Q => rI CMul (fun i j => .int (i * j)) x y H Q ∨ rI CMulW (fun i j => .int (i * j)) x y H Q
theorem op_mulA : OpR X (binaryOp .Mult) rMulA := op_mul.or op_mulW
theorem natAbs64 {i : Int} (h : i.natAbs < 2 ^ 64) : -(2 ^ 64) < i ∧ i < 2 ^ 64 := by omega
theorem o_mulI : OpC K mg rMulA (onI mulD) := intC fun i j u H Q h k => by
  simp only [mulD] at h
  split at h
  · rename_i hw
    cases h
    simp only [wideOk, Bool.or_eq_true, decide_eq_true_eq] at hw
    rcases hw with hw | hw | hw
    · exact .inl ⟨i, j, rfl, rfl, .inl (natAbs64 hw), k _ fun _ => .int _⟩
    · exact .inl ⟨i, j, rfl, rfl, .inr (natAbs64 hw), k _ fun _ => .int _⟩
    · exact .inr ⟨i, j, rfl, rfl, hw, k _ fun _ => .int _⟩
  · cases h
def rFdivA : R2 := fun x y H Q => rI CDivN (fun i j => .int (i.fdiv j)) x y H Q ∨ rI CDivW (fun i j => .int (i / j)) x y H Q
theorem op_fdivA : OpR X (binaryOp .FloorDiv) rFdivA := op_fdivN.or op_fdivW
theorem o_fdivI : OpC K mg rFdivA (onI fdivD) := intC fun i j u H Q h k => by
  simp only [fdivD] at h
  split at h
  · rename_i hw
    cases h
    simp only [divOk, Bool.or_eq_true, decide_eq_true_eq] at hw
    rcases hw with hw | hw
    · exact .inl ⟨i, j, rfl, rfl, hw, k _ fun _ => .int _⟩
    · refine .inr ⟨i, j, rfl, rfl, hw, ?_⟩
      have hj : 0 ≤ j := Int.le_of_lt hw.1
      have e := Int.fdiv_eq_ediv_of_nonneg i hj
      show Q (.int (i / j)) H
      rw [← e]
      exact k _ fun _ => .int _
  · cases h
theorem o_modI : OpC K mg (rI (fun _ j => j ≠ 0) fun i j => .int (i.fmod j)) (onI modD) := intC fun i j u H Q h k => by
  simp only [modD] at h
  split at h
  · cases h
  · rename_i hw
    cases h
    exact ⟨i, j, rfl, rfl, hw, k _ fun _ => .int _⟩
theorem o_powI : OpC K mg (rI CPow fun i j => .int (i ^ j.toNat)) (onI powD) := intC fun i j u H Q h k => by
  simp only [powD] at h
  split at h
  · rename_i hw
    cases h
    exact ⟨i, j, rfl, rfl, hw, k _ fun _ => .int _⟩
  · cases h
theorem o_lt : OpC K mg (rI0 fun i j => .bl (decide (i < j))) (onI ltD) := intC fun i j u H Q h k => by
  cases h
  exact ⟨i, j, rfl, rfl, k _ fun _ => .bl _⟩
theorem o_le : OpC K mg (rI0 fun i j => .bl (decide (i ≤ j))) (onI leD) := intC fun i j u H Q h k => by
  cases h
  exact ⟨i, j, rfl, rfl, k _ fun _ => .bl _⟩
theorem o_gt : OpC K mg (rI0 fun i j => .bl (decide (j < i))) (onI gtD) := intC fun i j u H Q h k => by
  cases h
  exact ⟨i, j, rfl, rfl, k _ fun _ => .bl _⟩
theorem o_ge : OpC K mg (rI0 fun i j => .bl (decide (j ≤ i))) (onI geD) := intC fun i j u H Q h k => by
  cases h
  exact ⟨i, j, rfl, rfl, k _ fun _ => .bl _⟩
theorem o_eq : OpC K mg (rEqD K) eqD := fun G H x y d e u Q g hx hy hf k => by
  simp only [eqD] at hf
  split at hf
  · rename_i hp
    cases hf
    rw [Bool.and_eq_true] at hp
    exact ⟨d, e, (hx.up g).dp hp.1, (hy.up g).dp hp.2, pl_shaped hp.1, pl_shaped hp.2, k _ fun _ => .bl _⟩
  · cases hf
theorem o_ne : OpC K mg (rNeD K) neD := fun G H x y d e u Q g hx hy hf k => by
  simp only [neD] at hf
  split at hf
  · rename_i hp
    cases hf
    rw [Bool.and_eq_true] at hp
    exact ⟨d, e, (hx.up g).dp hp.1, (hy.up g).dp hp.2, pl_shaped hp.1, pl_shaped hp.2, k _ fun _ => .bl _⟩
  · cases hf
/-- is None -/
def isNoneD2 : Op2 := fun x y => match y with
  | .none => isNoneD x
  | _ => none
def notNoneD2 : Op2 := fun x y => match y with
  | .none => notNoneD x
  | _ => none
theorem none_dec {G : Hp} {x : V} {d u : D} (hx : Is K mg G x d) (h : isNoneD d = some u) : u = .bool (decide (x = .non)) := by
  cases hx <;> simp_all [isNoneD]
theorem none_dec' {G : Hp} {x : V} {d u : D} (hx : Is K mg G x d) (h : notNoneD d = some u) : u = .bool (!decide (x = .non)) := by
  cases hx <;> simp_all [notNoneD]
theorem o_isN : OpC K mg (fun x y H Q => y = .non ∧ Q (.bl (decide (x = .non))) H) isNoneD2 := fun G H x y d e u Q g hx hy hf k => by
  cases e with
  | none =>
    have z := none_dec hx hf
    subst z
    exact ⟨hy.none_of, k _ fun _ => .bl _⟩
  | _ => cases hf
theorem o_notN : OpC K mg (fun x y H Q => y = .non ∧ Q (.bl (!decide (x = .non))) H) notNoneD2 := fun G H x y d e u Q g hx hy hf k => by
  cases e with
  | none =>
    have z := none_dec' hx hf
    subst z
    exact ⟨hy.none_of, k _ fun _ => .bl _⟩
  | _ => cases hf
end
/-! ### rules by operators -/
section
variable {X : Cx} {C : Cd} {m : List Mode} {q q' : Bool} {a b c : Expr} {fa fb fc : M D} {ka kb : Kd} {pos : Pos}
abbrev addI := bin (onI addD)
abbrev subI := bin (onI subD)
abbrev mulI := bin (onI mulD)
abbrev fdivI := bin (onI fdivD)
abbrev modI := bin (onI modD)
abbrev powI := bin (onI powD)
abbrev ltE := bin (onI ltD)
abbrev leE := bin (onI leD)
abbrev gtE := bin (onI gtD)
abbrev geE := bin (onI geD)
abbrev eqE := bin eqD
abbrev neE := bin neD
abbrev isN := bin isNoneD2
abbrev notN := bin notNoneD2
theorem pd_addI (ha : PE X a (tE C m q .fz fa)) (hb : PE X b (tE C m q' .fz fb)) : PE X (.BinOp a .Add b pos) (tE C m (q && q') .fz (addI fa fb)) := pd_bin o_addI.d op_add ha hb
theorem pd_sub (ha : PE X a (tE C m q .fz fa)) (hb : PE X b (tE C m q' .fz fb)) : PE X (.BinOp a .Sub b pos) (tE C m (q && q') .fz (subI fa fb)) := pd_bin o_subI.d op_sub ha hb
theorem pd_mulI (ha : PE X a (tE C m q .fz fa)) (hb : PE X b (tE C m q' .fz fb)) : PE X (.BinOp a .Mult b pos) (tE C m (q && q') .fz (mulI fa fb)) := pd_bin o_mulI.d op_mulA ha hb
theorem pd_fdiv (ha : PE X a (tE C m q .fz fa)) (hb : PE X b (tE C m q' .fz fb)) : PE X (.BinOp a .FloorDiv b pos) (tE C m (q && q') .fz (fdivI fa fb)) := pd_bin o_fdivI.d op_fdivA ha hb
theorem pd_mod (ha : PE X a (tE C m q .fz fa)) (hb : PE X b (tE C m q' .fz fb)) : PE X (.BinOp a .Mod b pos) (tE C m (q && q') .fz (modI fa fb)) := pd_bin o_modI.d op_modN ha hb
theorem pd_pow (ha : PE X a (tE C m q .fz fa)) (hb : PE X b (tE C m q' .fz fb)) : PE X (.BinOp a .Pow b pos) (tE C m (q && q') .fz (powI fa fb)) := pd_bin o_powI.d op_pow ha hb
theorem pd_lt (ha : PE X a (tE C m q .fz fa)) (hb : PE X b (tE C m q' .fz fb)) : PE X (.Compare a [.Lt] [b] pos) (tE C m (q && q') .fz (ltE fa fb)) := pd_cmp o_lt op_lt ha hb (nomark _)
theorem pd_le (ha : PE X a (tE C m q .fz fa)) (hb : PE X b (tE C m q' .fz fb)) : PE X (.Compare a [.LtE] [b] pos) (tE C m (q && q') .fz (leE fa fb)) := pd_cmp o_le op_le ha hb (nomark _)
theorem pd_gt (ha : PE X a (tE C m q .fz fa)) (hb : PE X b (tE C m q' .fz fb)) : PE X (.Compare a [.Gt] [b] pos) (tE C m (q && q') .fz (gtE fa fb)) := pd_cmp o_gt op_gt ha hb (nomark _)
theorem pd_ge (ha : PE X a (tE C m q .fz fa)) (hb : PE X b (tE C m q' .fz fb)) : PE X (.Compare a [.GtE] [b] pos) (tE C m (q && q') .fz (geE fa fb)) := pd_cmp o_ge op_ge ha hb (nomark _)
theorem td_lt (ha : PE X a (tE C m q .fz fa)) (hb : PE X b (tE C m q' .fz fb)) : PT X (.Compare a [.Lt] [b] pos) (tT C m (q && q') (testB (ltE fa fb))) := td_cmp o_lt op_lt ha hb (nomark _)
theorem td_le (ha : PE X a (tE C m q .fz fa)) (hb : PE X b (tE C m q' .fz fb)) : PT X (.Compare a [.LtE] [b] pos) (tT C m (q && q') (testB (leE fa fb))) := td_cmp o_le op_le ha hb (nomark _)
theorem td_gt (ha : PE X a (tE C m q .fz fa)) (hb : PE X b (tE C m q' .fz fb)) : PT X (.Compare a [.Gt] [b] pos) (tT C m (q && q') (testB (gtE fa fb))) := td_cmp o_gt op_gt ha hb (nomark _)
theorem td_ge (ha : PE X a (tE C m q .fz fa)) (hb : PE X b (tE C m q' .fz fb)) : PT X (.Compare a [.GtE] [b] pos) (tT C m (q && q') (testB (geE fa fb))) := td_cmp o_ge op_ge ha hb (nomark _)
variable (A : Agr X C)
include A
theorem hu64 : X.A.units + 64 < cLine := Nat.lt_of_le_of_lt (Nat.le_succ _) A.hu
theorem pd_eq (ha : PE X a (tE C m q ka fa)) (hb : PE X b (tE C m q' kb fb)) (hk : ka = .fz ∨ q' = true := by first | exact .inl rfl | exact .inr rfl) : PE X (.Compare a [.Eq] [b] pos) (tE C m (q && q') .fz (eqE fa fb)) := pd_cmp o_eq (by rw [← A.K]; exact op_eqD (hu64 A)) ha hb (nomark _) hk
theorem pd_ne (ha : PE X a (tE C m q ka fa)) (hb : PE X b (tE C m q' kb fb)) (hk : ka = .fz ∨ q' = true := by first | exact .inl rfl | exact .inr rfl) : PE X (.Compare a [.NotEq] [b] pos) (tE C m (q && q') .fz (neE fa fb)) := pd_cmp o_ne (by rw [← A.K]; exact op_neD (hu64 A)) ha hb (nomark _) hk
theorem td_eq (ha : PE X a (tE C m q ka fa)) (hb : PE X b (tE C m q' kb fb)) (hk : ka = .fz ∨ q' = true := by first | exact .inl rfl | exact .inr rfl) : PT X (.Compare a [.Eq] [b] pos) (tT C m (q && q') (testB (eqE fa fb))) := td_cmp o_eq (by rw [← A.K]; exact op_eqD (hu64 A)) ha hb (nomark _) hk
theorem td_ne (ha : PE X a (tE C m q ka fa)) (hb : PE X b (tE C m q' kb fb)) (hk : ka = .fz ∨ q' = true := by first | exact .inl rfl | exact .inr rfl) : PT X (.Compare a [.NotEq] [b] pos) (tT C m (q && q') (testB (neE fa fb))) := td_cmp o_ne (by rw [← A.K]; exact op_neD (hu64 A)) ha hb (nomark _) hk
omit A
theorem pd_isN (ha : PE X a (tE C m q .fz fa)) (hb : PE X b (tE C m q' .fz fb)) : PE X (.Compare a [.Is] [b] pos) (tE C m (q && q') .fz (isN fa fb)) := pd_cmp o_isN op_isN ha hb (nomark _)
theorem pd_notN (ha : PE X a (tE C m q .fz fa)) (hb : PE X b (tE C m q' .fz fb)) : PE X (.Compare a [.IsNot] [b] pos) (tE C m (q && q') .fz (notN fa fb)) := pd_cmp o_notN op_notN ha hb (nomark _)
theorem td_isN (ha : PE X a (tE C m q .fz fa)) (hb : PE X b (tE C m q' .fz fb)) : PT X (.Compare a [.Is] [b] pos) (tT C m (q && q') (testB (isN fa fb))) := td_cmp o_isN op_isN ha hb (nomark _)
theorem td_notN (ha : PE X a (tE C m q .fz fa)) (hb : PE X b (tE C m q' .fz fb)) : PT X (.Compare a [.IsNot] [b] pos) (tT C m (q && q') (testB (notN fa fb))) := td_cmp o_notN op_notN ha hb (nomark _)
/-! ### and, or, not -/
theorem PW.imp {e : Expr} {t t' : TT} (h : PW X e t) (i : ∀ σ H Q, t' σ H Q → t σ H Q) : PW X e t' := ⟨fun w pins s σ H Q I q => h.run w pins s σ H Q I (i σ H Q q)⟩
variable {ta tb : M Bool} {rest : List Expr}
theorem tw_and1 (ha : PT X a (tT C m q ta)) : PW X (.BoolOp .And [a] pos) (tT C m q ta) := pw_and1 ha
theorem tw_or1 (ha : PT X a (tT C m q ta)) : PW X (.BoolOp .Or [a] pos) (tT C m q ta) := pw_or1 ha
theorem tw_and (ha : PT X a (tT C m q ta)) (hb : PW X (.BoolOp .And (b :: rest) pos) (tT C m q' tb)) : PW X (.BoolOp .And (a :: b :: rest) pos) (tT C m (q && q') (andT ta tb)) := PW.imp (pw_and ha hb) fun σ H Q ⟨ρ, fp, R, p⟩ => by
  refine ⟨ρ, fp, R, p.bnd.imp fun x ρ1 p1 H1 fp1 R1 e1 q1 => ?_⟩
  cases x with
  | true => exact ⟨ρ1, fp1, R1, (p1.later e1).imp fun y ρ2 p2 H2 fp2 R2 e2 q2 => p2 H2 fp2 R2 (e1.trans e2) (q1.trans q2)⟩
  | false => exact p1 H1 fp1 R1 e1 q1.and
theorem tw_or (ha : PT X a (tT C m q ta)) (hb : PW X (.BoolOp .Or (b :: rest) pos) (tT C m q' tb)) : PW X (.BoolOp .Or (a :: b :: rest) pos) (tT C m (q && q') (orT ta tb)) := PW.imp (pw_or ha hb) fun σ H Q ⟨ρ, fp, R, p⟩ => by
  refine ⟨ρ, fp, R, p.bnd.imp fun x ρ1 p1 H1 fp1 R1 e1 q1 => ?_⟩
  cases x with
  | true => exact p1 H1 fp1 R1 e1 q1.and
  | false => exact ⟨ρ1, fp1, R1, (p1.later e1).imp fun y ρ2 p2 H2 fp2 R2 e2 q2 => p2 H2 fp2 R2 (e1.trans e2) (q1.trans q2)⟩
theorem td_not (ha : PT X a (tT C m q ta)) : PT X (.UnaryOp .Not a pos) (tT C m q (notT ta)) := PT.imp (pt_not ha) fun σ H Q ⟨ρ, fp, R, p⟩ => by
  refine ⟨ρ, fp, R, p.bnd.imp fun x ρ1 p1 H1 fp1 R1 e1 q1 => ?_⟩
  exact p1 H1 fp1 R1 e1 q1
/-- the first of and, or as a value: a truth value -/
theorem bool_first {f : M D} {g : Bool → M D} {σ : L2.St} {H : Hp} {Q : VK} {R2 : Bool → Hp → Prop} (h : tE C m (q && q') .fz (bnd (testB f) g) σ H Q)
    (k : ∀ ρ ρ1 fp fp1 H1 b, Rep C m ρ1 σ H1 fp1 → Evo fp H fp1 H1 → Qt q ρ ρ1 fp fp1 H H1 → Pst C fp1 H1 (fun d ρ' => ∀ v H' fp' F, Rep C m ρ' σ H' fp' → Evo fp H fp' H' → Qt (q && q') ρ ρ' fp fp' H H' → Res C .fz H H' fp' v d F → Q v H') (g b ρ1) → R2 b H1) :
    tE C m q .fz f σ H fun x H1 => ∃ c, x = .bl c ∧ R2 c H1 := by
  obtain ⟨ρ, fp, R, p⟩ := h
  refine ⟨ρ, fp, R, p.bnd.bnd.imp fun x ρ1 p1 v1 H1 fp1 F1 R1 e1 q1 r1 => ?_⟩
  obtain ⟨u, hu, k1⟩ := p1.lft
  exact ⟨u, r1.1.boolV hu, k ρ ρ1 fp fp1 H1 u R1 e1 q1 (k1.later e1)⟩
theorem Res.fzH {H0 H0' H : Hp} {fp : Fp} {v : V} {d : D} {F : Ad} (r : Res C .fz H0 H fp v d F) : Res C .fz H0' H fp v d F := r
theorem pd_one {op} {f : M D} (ha : PE X a (tE C m q ka f)) : PE X (.BoolOp op [a] pos) (tE C m q ka f) := pe_one ha
theorem pd_and (ha : PE X a (tE C m q .fz fa)) (hb : PE X (.BoolOp .And (b :: rest) pos) (tE C m q' .fz fb)) : PE X (.BoolOp .And (a :: b :: rest) pos) (tE C m (q && q') .fz (andV fa fb)) := PE.imp (pe_and ha hb) fun σ H Q h => by
  refine bool_first h fun ρ ρ1 fp fp1 H1 b R1 e1 q1 p1 => ?_
  cases b with
  | true =>
    rw [if_pos rfl]
    exact ⟨ρ1, fp1, R1, p1.imp fun y ρ2 p2 v H2 fp2 F2 R2 e2 q2 r2 => p2 v H2 fp2 F2 R2 (e1.trans e2) (q1.trans q2) r2.fzH⟩
  | false =>
    rw [if_neg Bool.false_ne_true]
    exact p1 _ H1 fp1 (fun _ => False) R1 e1 q1.and ⟨.bl false, fun _ z => z⟩
theorem pd_or (ha : PE X a (tE C m q .fz fa)) (hb : PE X (.BoolOp .Or (b :: rest) pos) (tE C m q' .fz fb)) : PE X (.BoolOp .Or (a :: b :: rest) pos) (tE C m (q && q') .fz (orV fa fb)) := PE.imp (pe_or ha hb) fun σ H Q h => by
  refine bool_first h fun ρ ρ1 fp fp1 H1 b R1 e1 q1 p1 => ?_
  cases b with
  | false =>
    rw [if_neg Bool.false_ne_true]
    exact ⟨ρ1, fp1, R1, p1.imp fun y ρ2 p2 v H2 fp2 F2 R2 e2 q2 r2 => p2 v H2 fp2 F2 R2 (e1.trans e2) (q1.trans q2) r2.fzH⟩
  | true =>
    rw [if_pos rfl]
    exact p1 _ H1 fp1 (fun _ => False) R1 e1 q1.and ⟨.bl true, fun _ z => z⟩
theorem pd_not (ha : PE X a (tE C m q .fz fa)) : PE X (.UnaryOp .Not a pos) (tE C m q .fz (notV fa)) := PE.imp (pe_not ha) fun σ H Q ⟨ρ, fp, R, p⟩ => by
  refine ⟨ρ, fp, R, p.bnd.bnd.imp fun x ρ1 p1 v1 H1 fp1 F1 R1 e1 q1 r1 => ?_⟩
  obtain ⟨u, hu, k1⟩ := p1.lft
  exact ⟨u, r1.1.boolV hu, k1 _ H1 fp1 (fun _ => False) R1 e1 q1 ⟨.bl _, fun _ z => z⟩⟩
theorem Res.later {k : Kd} {ρ ρ1 : Env} {σ : L2.St} {fp fp1 fp2 : Fp} {H H1 H2 : Hp} {v : V} {d : D} {F : Ad} (e : Evo fp H fp1 H1) (r : Res C k H1 H2 fp2 v d F) : Res C k H H2 fp2 v d F := by
  match k, r with
  | .fz, r => exact r
  | .new n, ⟨r1, r2, r3⟩ => exact ⟨r1, r2, fun a q => Classical.byContradiction fun z => e.there a z (r3 a q)⟩
  | .bor n, r => exact r
theorem pd_ifE {k : Kd} {q1 q2 : Bool} (hc : PT X c (tT C m q ta)) (ha : PE X a (tE C m q1 k fa)) (hb : PE X b (tE C m q2 k fb)) : PE X (.IfExp c a b pos) (tE C m (q && (q1 && q2)) k (ifE ta fa fb)) := PE.imp (pe_ifExp hc ha hb) fun σ H Q ⟨ρ, fp, R, p⟩ => by
  refine ⟨ρ, fp, R, p.bnd.imp fun x ρ1 p1 H1 fp1 R1 e1 qq1 => ?_⟩
  cases x with
  | true =>
    rw [if_pos rfl]
    refine ⟨ρ1, fp1, R1, (p1.later e1).imp fun y ρ2 p2 v H2 fp2 F2 R2 e2 qq2 r2 => p2 v H2 fp2 F2 R2 (e1.trans e2) (fun z => ?_) (r2.later (ρ := ρ) (ρ1 := ρ1) (σ := σ) e1)⟩
    simp only [Bool.and_eq_true] at z
    exact (qq1.trans qq2) (by rw [z.1, z.2.1]; rfl)
  | false =>
    rw [if_neg Bool.false_ne_true]
    refine ⟨ρ1, fp1, R1, (p1.later e1).imp fun y ρ2 p2 v H2 fp2 F2 R2 e2 qq2 r2 => p2 v H2 fp2 F2 R2 (e1.trans e2) (fun z => ?_) (r2.later (ρ := ρ) (ρ1 := ρ1) (σ := σ) e1)⟩
    simp only [Bool.and_eq_true] at z
    exact (qq1.trans qq2) (by rw [z.1, z.2.2]; rfl)
/-! ### a op b op' c -/
theorem chn_of {r r' : R2} {f g : Op2} {q'' : Bool} (hf : OpC C.K C.mg r f) (hg : OpC C.K C.mg r' g) {σ : L2.St} {H : Hp} {Q : VK} (h : tE C m (q && (q' && q'')) .fz (chn f g fa fb fc) σ H Q) :
    tChain r r' (tE C m q .fz fa) (tE C m q' .fz fb) (tE C m q'' .fz fc) σ H Q := by
  obtain ⟨ρ, fp, R, p⟩ := h
  refine ⟨ρ, fp, R, p.bnd.imp fun x ρ1 p1 v1 H1 fp1 F1 R1 e1 q1 r1 => ⟨ρ1, fp1, R1, (p1.later e1).bnd.imp fun y ρ2 p2 v2 H2 fp2 F2 R2 e2 q2 r2 => ?_⟩⟩
  obtain ⟨u, hu, k⟩ := p2.bnd.lft
  obtain ⟨b, hb, k⟩ := k.bnd.lft
  refine hf (hide (own C.M fp2) H2) H2 v1 v2 x y u _ hide_grow (r1.1.up (e2.fz R1.ml)) r2.1 hu fun v i => ⟨b, (i (hide (own C.M fp2) H2)).boolV hb, ?_⟩
  have e12 := e1.trans e2
  cases b with
  | true =>
    rw [if_pos rfl]
    refine ⟨ρ2, fp2, R2, (k.later e2).bnd.imp fun z ρ3 p3 v3 H3 fp3 F3 R3 e3 q3 r3 => ?_⟩
    obtain ⟨u', hu', k'⟩ := p3.lft
    refine hg (hide (own C.M fp3) H3) H3 v2 v3 y z u' Q hide_grow (r2.1.up (e3.fz R2.ml)) r3.1 hu' fun v' i' => ?_
    refine k' v' H3 fp3 (fun _ => False) R3 (e12.trans e3) (fun z => ?_) ⟨i' _, fun _ z => z⟩
    simp only [Bool.and_eq_true] at z
    exact (q1.trans (q2.trans q3)) (by rw [z.1, z.2.1, z.2.2]; rfl)
  | false =>
    rw [if_neg Bool.false_ne_true]
    refine k _ H2 fp2 (fun _ => False) R2 e12 (fun z => ?_) ⟨.bl false, fun _ z => z⟩
    simp only [Bool.and_eq_true] at z
    exact (q1.trans q2) (by rw [z.1, z.2.1]; rfl)
theorem pd_chn {op op' : CmpOp} {r r' : R2} {f g : Op2} {q'' : Bool} (hf : OpC C.K C.mg r f) (ho : OpR X (compareOp op) r) (hg : OpC C.K C.mg r' g) (ho' : OpR X (compareOp op') r') (ha : PE X a (tE C m q .fz fa)) (hb : PE X b (tE C m q' .fz fb)) (hc : PE X c (tE C m q'' .fz fc))
    (hm : lastMarks [op, op'] [b, c] = false := by with_unfolding_all rfl) : PE X (.Compare a [op, op'] [b, c] pos) (tE C m (q && (q' && q'')) .fz (chn f g fa fb fc)) := PE.imp (pe_chain ho ho' ha hb hc hm) fun _ _ _ h => chn_of hf hg h
theorem td_chn {op op' : CmpOp} {r r' : R2} {f g : Op2} {q'' : Bool} (hf : OpC C.K C.mg r f) (ho : OpR X (compareOp op) r) (hg : OpC C.K C.mg r' g) (ho' : OpR X (compareOp op') r') (ha : PE X a (tE C m q .fz fa)) (hb : PE X b (tE C m q' .fz fb)) (hc : PE X c (tE C m q'' .fz fc))
    (hm : lastMarks [op, op'] [b, c] = false := by with_unfolding_all rfl) : PT X (.Compare a [op, op'] [b, c] pos) (tT C m (q && (q' && q'')) (testB (chn f g fa fb fc))) := PT.imp (pt_chain ho ho' ha hb hc hm) fun _ _ _ h => chn_of hf hg (tb_of (k := .fz) h)
end
end Dn

/-! DnE -/
set_option Elab.async false
set_option linter.all false
set_option maxRecDepth 100000
/-! Dn, part E: displays, calls of built-ins, items, slices, joins. -/
namespace Dn
open PySem PySem.Spec PyProof.Rows L2
variable [LamTab]
theorem lineN_eq : lineN = sizeLine := by rw [sizeLine_eq]; rfl
/-! ### new objects -/
section
variable {C : Cd} {m : List Mode} {ρ : Env} {σ : L2.St} {fp fp0 : Fp} {H H0 : Hp}
theorem Evo.none {p : Addr} (e : Evo fp0 H0 fp H) (h : H p = none) : H0 p = none := Classical.byContradiction fun z => e.there p z h
theorem Rep.nown {p : Addr} (R : Rep C m ρ σ H fp) (h : H p = none) : ¬ own C.M fp p := fun q => R.live p q h
theorem hide_new {O O' : Ad} {p : Addr} {o : HO} (h : H p = none) (ho : ∀ a, O' a → O a ∨ a = p) : grow (hide O H) (hide O' (upd H p o)) := fun b u e _ => by
  obtain ⟨n, e⟩ := hide_at e
  have ne : b ≠ p := ne_of_none e h
  exact hide_of (fun z => (ho b z).elim n ne) (by rw [upd_ne ne]; exact e)
/-- a new list of frozen things -/
theorem new_lst {p : Addr} {vs : List V} {ds : List D} (R : Rep C m ρ σ H fp) (e : Evo fp0 H0 fp H) (h : H p = none) (r : IsL C.K C.mg (hide (own C.M fp) H) vs ds) : Res C (.new 1) H0 (upd H p (.lst vs)) fp (.ref p) (.list ds) (fun a => a = p) := by
  refine ⟨⟨p, fun _ => False, rfl, .inl ⟨vs, ds, upd_same, rfl, ?_⟩, fun z => z, fun b => ⟨.inl, fun z => z.elim (fun y => y) fun y => y.elim⟩⟩, fun a z => z ▸ R.nown h, fun a z => z ▸ e.none h⟩
  exact AllP.of_is (r.up (hide_new h fun a z => z))
theorem new_tup {p : Addr} {vs : List V} {ds : List D} (R : Rep C m ρ σ H fp) (h : H p = none) (r : IsL C.K C.mg (hide (own C.M fp) H) vs ds) : Is C.K C.mg (hide (own C.M fp) (upd H p (.tup vs))) (.ref p) (.tuple ds) :=
  .tup (.inl (.inl (hide_of (R.nown h) upd_same))) (r.up (hide_new h fun a z => .inl z))
end
/-! ### arguments, displays -/
section
variable {X : Cx} {C : Cd} {m : List Mode} {q q' : Bool} {a : Expr} {es : List Expr} {f : M D} {g : M (List D)} {pos : Pos}
theorem pa_nilD : PA X [] (tA C m true nilA) := PA.imp pa_nil fun σ H Q ⟨ρ, fp, R, p⟩ => p [] H fp R .refl .refl .nil
theorem pa_consD (ha : PE X a (tE C m q .fz f)) (hr : PA X es (tA C m q' g)) (hs : starEach (a :: es) X.env = (false, eval a X.env) :: starEach es X.env := by rfl) : PA X (a :: es) (tA C m (q && q') (consA f g)) := PA.imp (pa_cons ha hr hs) fun σ H Q ⟨ρ, fp, R, p⟩ => by
  refine ⟨ρ, fp, R, p.bnd.imp fun x ρ1 p1 v1 H1 fp1 F1 R1 e1 q1 r1 => ⟨ρ1, fp1, R1, (p1.later e1).bnd.imp fun ds ρ2 p2 vs H2 fp2 R2 e2 q2 r2 => ?_⟩⟩
  exact p2 (v1 :: vs) H2 fp2 R2 (e1.trans e2) (q1.trans q2) (.cons (r1.1.up (e2.fz R1.ml)) r2)
theorem pd_tup {x1} (h : PA X es (tA C m q g)) : PE X (.Tuple es x1 pos) (tE C m q .fz (tupE g)) := PE.imp (pe_tup h) fun σ H Q ⟨ρ, fp, R, p⟩ => by
  refine ⟨ρ, fp, R, p.bnd.imp fun ds ρ1 p1 vs H1 fp1 R1 e1 q1 r1 => ?_⟩
  by_cases hl : ds.length ≤ lineN
  · rw [if_pos hl] at p1
    refine ⟨by rw [r1.length, ← lineN_eq]; exact hl, fun n hn => ?_⟩
    exact p1 _ _ fp1 (fun _ => False) (R1.stay (Gr.upd hn)) (e1.mono (Gr.upd hn)) (q1.grw (Gr.upd hn)) ⟨new_tup R1 hn r1, fun _ z => z⟩
  · rw [if_neg hl] at p1
    exact p1.elim
theorem pd_lst (h : PA X es (tA C m q g)) : PE X (.List es pos) (tE C m q (.new 1) (lstE g)) := PE.imp (pe_lst h) fun σ H Q ⟨ρ, fp, R, p⟩ => by
  refine ⟨ρ, fp, R, p.bnd.imp fun ds ρ1 p1 vs H1 fp1 R1 e1 q1 r1 => ?_⟩
  by_cases hl : ds.length ≤ lineN
  · rw [if_pos hl] at p1
    refine ⟨by rw [r1.length, ← lineN_eq]; exact hl, fun n hn => ?_⟩
    have w := new_lst R1 e1 hn r1
    exact p1 _ _ fp1 (fun a => a = n) (R1.fresh (Gr.upd hn) (fun a z => by rw [show a = n from z]; exact hn) w.1.lv) (e1.mono (Gr.upd hn)) (q1.grw (Gr.upd hn)) w
  · rw [if_neg hl] at p1
    exact p1.elim
end
/-! ### what may be read -/
/-- the value may be read as the data: frozen, or a container whose items are frozen -/
def Vw (K : PySem.W.Frag) (mg : Str → Option Value) (O : Ad) (H : Hp) (x : V) (d : D) : Prop := Is K mg (hide O H) x d ∨ ∃ a, x = .ref a ∧ Box H a d (fun vs ds => IsL K mg (hide O H) vs ds)
def vwK : Kd → Bool
  | .fz => true
  | .new 1 => true
  | .bor 1 => true
  | _ => false
section
variable {K : PySem.W.Frag} {mg : Str → Option Value} {O : Ad} {H : Hp} {x : V}
theorem Vw.list {ds : List D} (h : Vw K mg O H x (.list ds)) : ∃ a xs, x = .ref a ∧ Rd H a (.lst xs) ∧ IsL K mg (hide O H) xs ds := by
  rcases h with h | ⟨a, rfl, h⟩
  · obtain ⟨a, xs, rfl, h1, h2⟩ := h.list_of
    exact ⟨a, xs, rfl, Rd.up hide_grow h1, h2⟩
  · rcases h with ⟨vs, ds', h1, h2, h3⟩ | ⟨kvs, ds', h1, h2, h3⟩ | ⟨kvs, ds', h1, h2, h3⟩
    · cases h2
      exact ⟨a, vs, rfl, .inl h1, h3⟩
    · cases h2
    · cases h2
theorem Vw.tuple {ds : List D} (h : Vw K mg O H x (.tuple ds)) : ∃ a xs, x = .ref a ∧ SqT K H a xs ∧ IsL K mg (hide O H) xs ds := by
  rcases h with h | ⟨a, rfl, h⟩
  · obtain ⟨a, xs, rfl, h1, h2⟩ := h.tuple_of
    exact ⟨a, xs, rfl, SqT.up hide_grow h1, h2⟩
  · rcases h with ⟨vs, ds', h1, h2, h3⟩ | ⟨kvs, ds', h1, h2, h3⟩ | ⟨kvs, ds', h1, h2, h3⟩ <;> cases h2
theorem Vw.flat {d : D} (h : Vw K mg O H x d) (n : ∀ ds, d ≠ .list ds) (k : ∀ kvs, d ≠ .dict kvs) : Is K mg (hide O H) x d := by
  rcases h with h | ⟨a, rfl, h⟩
  · exact h
  · rcases h with ⟨vs, ds', h1, h2, h3⟩ | ⟨kvs, ds', h1, h2, h3⟩ | ⟨kvs, ds', h1, h2, h3⟩
    · exact absurd h2 (n _)
    · exact absurd h2 (k _)
    · exact absurd h2 (k _)
end
theorem Res.vw {C : Cd} {m : List Mode} {ρ : Env} {σ : L2.St} {fp : Fp} {H0 H : Hp} {k : Kd} {v : V} {d : D} {F : Ad} (hk : vwK k = true) (R : Rep C m ρ σ H fp) (r : Res C k H0 H fp v d F) : Vw C.K C.mg (own C.M fp) H v d := by
  match k, hk, r with
  | .fz, _, r => exact .inl r.1
  | .new 1, _, ⟨⟨a, F', e, b, _⟩, _⟩ =>
    refine .inr ⟨a, e, b.mono (fun _ z _ => z) fun vs ds q => ?_⟩
    exact q.is.1.up (hide_less fun a z => .inl z)
  | .bor 1, _, ⟨⟨a, F', e, b, _⟩, _⟩ => exact .inr ⟨a, e, b.mono (fun _ z _ => z) fun vs ds q => q.is.1⟩
/-- a new result behind an operation -/
def Nw (K : PySem.W.Frag) (mg : Str → Option Value) (k : Kd) (O : Ad) (H H' : Hp) (v : V) (u : D) : Prop := match k with
  | .fz => Is K mg (hide O H') v u
  | .new n => ∃ F, Ow K mg (hide (fun a => O a ∨ F a) H') H' n v u F ∧ ∀ a, F a → ¬ O a ∧ H a = none
  | .bor _ => False
/-- a function of values that may be read -/
def FnV (K : PySem.W.Frag) (mg : Str → Option Value) (k : Kd) (r : List V → Hp → VK → Prop) (f : Op1) : Prop := ∀ (O : Ad) (H : Hp) (x : V) (d u : D) (Q : VK), (∀ a, O a → H a ≠ none) → Vw K mg O H x d → f d = some u →
  (∀ v H', Gr H H' → Nw K mg k O H H' v u → Q v H') → r [x] H Q
/-- a function of frozen arguments -/
def FnA (K : PySem.W.Frag) (mg : Str → Option Value) (k : Kd) (r : List V → Hp → VK → Prop) (f : List D → Option D) : Prop := ∀ (O : Ad) (H : Hp) (xs : List V) (ds : List D) (u : D) (Q : VK), (∀ a, O a → H a ≠ none) → IsL K mg (hide O H) xs ds → f ds = some u →
  (∀ v H', Gr H H' → Nw K mg k O H H' v u → Q v H') → r xs H Q
theorem Ow.fpLive {K : PySem.W.Frag} {mg : Str → Option Value} {G H : Hp} {n : Nat} {v : V} {d : D} {F : Ad} (h : Ow K mg G H n v d F) : ∀ a, F a → H a ≠ none := h.live
theorem Nw.res {C : Cd} {m : List Mode} {ρ : Env} {σ : L2.St} {fp fp0 : Fp} {H0 H H' : Hp} {k : Kd} {v : V} {u : D} (R : Rep C m ρ σ H fp) (e : Evo fp0 H0 fp H) (g : Gr H H') (h : Nw C.K C.mg k (own C.M fp) H H' v u) : ∃ F, RepK C k F m ρ σ H' fp ∧ Res C k H0 H' fp v u F := by
  match k, h with
  | .fz, h => exact ⟨fun _ => False, R.stay g, h, fun _ z => z⟩
  | .new n, ⟨F, h1, h2⟩ => exact ⟨F, R.fresh g (fun a q => (h2 a q).2) h1.lv, h1, fun a q => (h2 a q).1, fun a q => e.none (h2 a q).2⟩
def app (f : List D → Option D) (a : M (List D)) : M D := bnd a fun ds => lft (f ds)
section
variable {X : Cx} {C : Cd} {m : List Mode} {q q' : Bool} {a : Expr} {es : List Expr} {fa : M D} {g : M (List D)} {p pos : Pos} {k ka : Kd} {r : List V → Hp → VK → Prop} {x : Str} {id T : String}
theorem call1_of {f : Op1} (hf : FnV C.K C.mg k r f) (hk : vwK ka = true) {σ : L2.St} {H : Hp} {Q : VK} (h : tE C m q k (un f fa) σ H Q) : tCB r (tCons (tE C m q ka fa) tNil) σ H Q := by
  obtain ⟨ρ, fp, R, p⟩ := h
  refine ⟨ρ, fp, R, p.bnd.imp fun d ρ1 p1 v1 H1 fp1 F1 R1 e1 q1 r1 => ?_⟩
  obtain ⟨u, hu, kk⟩ := p1.lft
  have R1 := R1.rep
  refine hf (own C.M fp1) H1 v1 d u Q R1.live (r1.vw hk R1) hu fun v H2 g n => ?_
  obtain ⟨F, Rk, rs⟩ := n.res R1 e1 g
  exact kk v H2 fp1 F Rk (e1.mono g) (q1.grw g) rs
theorem callA_of {f : List D → Option D} (hf : FnA C.K C.mg k r f) {σ : L2.St} {H : Hp} {Q : VK} (h : tE C m q k (app f g) σ H Q) : tCB r (tA C m q g) σ H Q := by
  obtain ⟨ρ, fp, R, p⟩ := h
  refine ⟨ρ, fp, R, p.bnd.imp fun ds ρ1 p1 vs H1 fp1 R1 e1 q1 r1 => ?_⟩
  obtain ⟨u, hu, kk⟩ := p1.lft
  refine hf (own C.M fp1) H1 vs ds u Q R1.live r1 hu fun v H2 g n => ?_
  obtain ⟨F, Rk, rs⟩ := n.res R1 e1 g
  exact kk v H2 fp1 F Rk (e1.mono g) (q1.grw g) rs
theorem pd_b1 {f : Op1} (hf : FnV C.K C.mg k r f) (hc : CallR X (.builtin id) r) (hv : bootBuiltins x = some (.builtin id)) (hm : X.mg x = none) (ha : PE X a (tE C m q ka fa)) (hk : vwK ka = true := by rfl) (hg : Gl X x := by rfl) (hn : x ≠ "__name__" := by decide) (hdb : (x == ("__debug__" : Str)) = false := by decide)
    (hs : starEach (a :: []) X.env = (false, eval a X.env) :: starEach [] X.env := by rfl) (hpl : (backTo pos (starEach [] X.env)).any (·.1) = false := by rfl) : PE X (.Call (.Name x p) (a :: []) [] pos) (tE C m q k (un f fa)) :=
  PE.imp (pe_callB hc hg hm hv (pa_cons ha pa_nil hs) hn hdb hs hpl) fun _ _ _ h => call1_of hf hk h
theorem pd_t1 {f : Op1} (hf : FnV C.K C.mg k r f) (hc : CallR X (.type T) r) (hv : bootBuiltins x = some (.type T)) (hm : X.mg x = none) (ha : PE X a (tE C m q ka fa)) (hk : vwK ka = true := by rfl) (hg : Gl X x := by rfl) (hn : x ≠ "__name__" := by decide) (hdb : (x == ("__debug__" : Str)) = false := by decide)
    (hs : starEach (a :: []) X.env = (false, eval a X.env) :: starEach [] X.env := by rfl) (hpl : (backTo pos (starEach [] X.env)).any (·.1) = false := by rfl) : PE X (.Call (.Name x p) (a :: []) [] pos) (tE C m q k (un f fa)) :=
  PE.imp (pe_callTy hc hg hm hv (pa_cons ha pa_nil hs) hn hdb hs hpl) fun _ _ _ h => call1_of hf hk h
theorem pd_bA {f : List D → Option D} {e1 : Expr} {es1 : List Expr} (hf : FnA C.K C.mg k r f) (hc : CallR X (.builtin id) r) (hv : bootBuiltins x = some (.builtin id)) (hm : X.mg x = none) (ha : PA X (e1 :: es1) (tA C m q g)) (hg : Gl X x := by rfl) (hn : x ≠ "__name__" := by decide) (hdb : (x == ("__debug__" : Str)) = false := by decide)
    (hs : starEach (e1 :: es1) X.env = (false, eval e1 X.env) :: starEach es1 X.env := by rfl) (hpl : (backTo pos (starEach es1 X.env)).any (·.1) = false := by rfl) : PE X (.Call (.Name x p) (e1 :: es1) [] pos) (tE C m q k (app f g)) :=
  PE.imp (pe_callB hc hg hm hv ha hn hdb hs hpl) fun _ _ _ h => callA_of hf h
theorem pd_gA {f : List D → Option D} {e1 : Expr} {es1 : List Expr} (hf : FnA C.K C.mg k r f) (hc : CallR X (.builtin id) r) (hm : X.mg x = some (.builtin id)) (ha : PA X (e1 :: es1) (tA C m q g)) (hg : Gl X x := by rfl) (hdb : (x == ("__debug__" : Str)) = false := by decide)
    (hs : starEach (e1 :: es1) X.env = (false, eval e1 X.env) :: starEach es1 X.env := by rfl) (hpl : (backTo pos (starEach es1 X.env)).any (·.1) = false := by rfl) : PE X (.Call (.Name x p) (e1 :: es1) [] pos) (tE C m q k (app f g)) :=
  PE.imp (pe_callBfun hc hg hm ha hdb hs hpl) fun _ _ _ h => callA_of hf h
end
/-! ### the functions -/
section
variable {X : Cx} {K : PySem.W.Frag} {mg : Str → Option Value}
def rLenA (K : PySem.W.Frag) : List V → Hp → VK → Prop := fun xs H Q => (∃ x n, xs = [x] ∧ LenV K x H n ∧ Q (.int n) H) ∨ (∃ a kvs, xs = [V.ref a] ∧ H a = some (.dK kvs) ∧ Q (.int kvs.length) H) ∨ rLenT xs H Q
theorem call_lenA : CallR X (.builtin "len") (rLenA X.K) := call_len.or (call_lenD.or call_len_dT)
theorem f_len : FnV K mg .fz (rLenA K) lenD := fun O H x d u Q lv h hf k => by
  have fin : ∀ n : Int, u = .int n → Q (.int n) H := fun n e => k _ H Gr.refl (by subst e; exact .int n)
  cases d with
  | list ds =>
    cases hf
    obtain ⟨a, xs, rfl, h1, h2⟩ := h.list
    exact .inl ⟨_, ds.length, rfl, .inl ⟨xs, .inl h1, h2.length.symm⟩, fin _ rfl⟩
  | tuple ds =>
    cases hf
    obtain ⟨a, xs, rfl, h1, h2⟩ := h.tuple
    exact .inl ⟨_, ds.length, rfl, .inr ⟨xs, h1, h2.length.symm⟩, fin _ rfl⟩
  | str z =>
    simp only [lenD] at hf
    split at hf
    · rename_i hz
      cases hf
      have i := h.flat (fun _ e => by cases e) (fun _ e => by cases e)
      rw [i.str_of]
      exact .inl ⟨_, z.length, rfl, ⟨by rw [← lineN_eq]; exact hz, rfl⟩, fin _ rfl⟩
    · cases hf
  | dict kvs =>
    have zl : ∀ {α β : Type} (l : List α) (ds : List β), l.length = ds.length → (l.zip ds).length = l.length := fun l ds e => by rw [List.length_zip, e, Nat.min_self]
    obtain ⟨n, hn, rfl⟩ := Option.map_eq_some_iff.mp hf
    have nk : ∀ (kvs : List (Key × V)) (ds : List D), IsL K mg (hide O H) (kvs.map (·.2)) ds → dictN ((kvs.map fun p => kD p.1).zip ds) = some n → kvs.length = n := fun kvs ds r e => by
      have hl := r.length
      rw [List.length_map] at hl
      have z := zl (kvs.map fun p => kD p.1) ds (by rw [List.length_map]; exact hl)
      rw [List.length_map] at z
      rw [← z]
      cases kvs with
      | nil => simp [dictN] at e ⊢; exact e
      | cons p r =>
        cases ds with
        | nil => simp at hl
        | cons d ds =>
          cases hk : p.1 with
          | inl i => simp only [List.map_cons, List.zip_cons_cons, hk, kD, dictN, Option.some.injEq] at e ⊢; exact e
          | inr x => simp only [List.map_cons, List.zip_cons_cons, hk, kD, dictN, Option.some.injEq] at e ⊢; exact e
    have tk : ∀ (kvs : List (List Key × V)) (ds : List D), IsL K mg (hide O H) (kvs.map (·.2)) ds → dictN ((.bool true, .none) :: (kvs.map fun p => tD p.1).zip ds) = some n → kvs.length = n := fun kvs ds r e => by
      have hl := r.length
      rw [List.length_map] at hl
      have z := zl (kvs.map fun p => tD p.1) ds (by rw [List.length_map]; exact hl)
      rw [List.length_map] at z
      rw [← z]
      exact Option.some.inj e
    rcases h with h | ⟨a, rfl, h⟩
    · cases h with
      | @dK a kvs ds h1 h2 => exact .inr (.inl ⟨a, kvs, rfl, hide_raw h1, fin _ (by rw [nk kvs ds h2 hn])⟩)
      | @dT a kvs ds h1 h2 => exact .inr (.inr ⟨a, kvs, rfl, hide_raw h1, fin _ (by rw [tk kvs ds h2 hn])⟩)
      | fn h1 => cases hn
      | lam _ _ _ => cases hn
    · rcases h with ⟨vs, ds', h1, h2, h3⟩ | ⟨kvs, ds', h1, h2, h3⟩ | ⟨kvs, ds', h1, h2, h3⟩
      · cases h2
      · cases h2
        exact .inr (.inl ⟨a, kvs, rfl, h1, fin _ (by rw [nk kvs ds' h3 hn])⟩)
      · cases h2
        exact .inr (.inr ⟨a, kvs, rfl, h1, fin _ (by rw [tk kvs ds' h3 hn])⟩)
  | _ => cases hf
end
end Dn

/-! DnF -/
set_option Elab.async false
set_option linter.all false
set_option maxRecDepth 100000
/-! Dn, part F: more built-ins, items, slices, joins, membership. -/
namespace Dn
open PySem PySem.Spec PyProof.Rows L2
variable [LamTab]
/-! ### what they compute -/
def tupleD : Op1
  | .list xs => some (.tuple xs)
  | .tuple xs => some (.tuple xs)
  | _ => none
def listD : Op1
  | .list xs => some (.list xs)
  | .tuple xs => some (.list xs)
  | _ => none
def intsOf : List D → Option (List Int)
  | [] => some []
  | .int i :: r => (intsOf r).map (i :: ·)
  | _ :: _ => none
def sumD : Op1
  | .list xs => (intsOf xs).map fun ns => .int ns.sum
  | _ => none
def minL : List Int → Option Int
  | [] => none
  | i :: r => some (r.foldl min i)
def maxL : List Int → Option Int
  | [] => none
  | i :: r => some (r.foldl max i)
def minD : Op1
  | .list xs => ((intsOf xs).bind minL).map .int
  | _ => none
def maxD : Op1
  | .list xs => ((intsOf xs).bind maxL).map .int
  | _ => none
def insI (i : Int) : List Int → List Int
  | [] => [i]
  | j :: r => if i ≤ j then i :: j :: r else j :: insI i r
def sortI : List Int → List Int
  | [] => []
  | i :: r => insI i (sortI r)
def sortedD : Op1
  | .list xs => (intsOf xs).map fun ns => .list ((sortI ns).map .int)
  | _ => none
def boolsOf : List D → Option (List Bool)
  | [] => some []
  | .bool b :: r => (boolsOf r).map (b :: ·)
  | _ :: _ => none
def anyD : Op1
  | .list xs => (boolsOf xs).map fun bs => .bool (bs.any id)
  | _ => none
def allD : Op1
  | .list xs => (boolsOf xs).map fun bs => .bool (bs.all id)
  | _ => none
def absD : Op1
  | .int i => some (.int (if i < 0 then -i else i))
  | _ => none
def intD : Op1
  | .int i => some (.int i)
  | .bool b => some (.int (if b then 1 else 0))
  | _ => none
def min2D : List D → Option D
  | [.int i, .int j] => some (.int (if j < i then j else i))
  | _ => none
def max2D : List D → Option D
  | [.int i, .int j] => some (.int (if j > i then j else i))
  | _ => none
def gcdD : List D → Option D
  | [.int i, .int j] => some (.int ((Nat.gcd i.natAbs j.natAbs : Nat) : Int))
  | _ => none
def tyN : D → Option String
  | .none => some "NoneType"
  | .bool _ => some "bool"
  | .int _ => some "int"
  | .str _ => some "str"
  | .list _ => some "list"
  | .tuple _ => some "tuple"
  | .dict kvs => (dictN kvs).map fun _ => "dict"
def isiD (T : String) : Op1 := fun d => (tyN d).map fun t => .bool (t == T || (t == "bool" && T == "int"))
/-! ### lists of ints -/
section
variable {K : PySem.W.Frag} {mg : Str → Option Value} {G : Hp}
theorem ints_of {xs : List V} {ds : List D} {ns : List Int} (h : IsL K mg G xs ds) (e : intsOf ds = some ns) : xs = ns.map V.int ∧ ds = ns.map .int := by
  induction ds generalizing xs ns with
  | nil => cases e; cases h; exact ⟨rfl, rfl⟩
  | cons d ds ih =>
    cases h with
    | cons a r =>
      cases d with
      | int i =>
        simp only [intsOf] at e
        cases e2 : intsOf ds with
        | none => rw [e2] at e; cases e
        | some ms =>
          rw [e2] at e
          cases e
          obtain ⟨h1, h2⟩ := ih r e2
          rw [a.int_of, h1, h2]
          exact ⟨rfl, rfl⟩
      | _ => cases e
theorem intsL (ns : List Int) : IsL K mg G (ns.map V.int) (ns.map .int) := by
  induction ns with
  | nil => exact .nil
  | cons n ns ih => exact .cons (.int n) ih
theorem intsOf_map (ns : List Int) : intsOf (ns.map .int) = some ns := by
  induction ns with
  | nil => rfl
  | cons n ns ih => simp only [List.map_cons, intsOf, ih, Option.map_some]
theorem bools_of {xs : List V} {ds : List D} {bs : List Bool} (h : IsL K mg G xs ds) (e : boolsOf ds = some bs) : xs = bs.map V.bl := by
  induction ds generalizing xs bs with
  | nil => cases e; cases h; rfl
  | cons d ds ih =>
    cases h with
    | cons a r =>
      cases d with
      | bool i =>
        simp only [boolsOf] at e
        cases e2 : boolsOf ds with
        | none => rw [e2] at e; cases e
        | some ms =>
          rw [e2] at e
          cases e
          rw [a.bool_of, ih r e2]
          rfl
      | _ => cases e
end
theorem insI_perm (i : Int) (l : List Int) : (insI i l).Perm (i :: l) := by
  induction l with
  | nil => exact .refl _
  | cons j r ih =>
    unfold insI
    split
    · exact .refl _
    · exact (List.Perm.cons j ih).trans (List.Perm.swap i j r)
theorem sortI_perm (l : List Int) : (sortI l).Perm l := by
  induction l with
  | nil => exact .refl _
  | cons i r ih => exact (insI_perm i _).trans (List.Perm.cons i ih)
theorem insI_sorted (i : Int) (l : List Int) (h : l.Pairwise (· ≤ ·)) : (insI i l).Pairwise (· ≤ ·) := by
  induction l with
  | nil => exact List.pairwise_cons.mpr ⟨fun _ z => (nomatch z), .nil⟩
  | cons j r ih =>
    obtain ⟨h1, h2⟩ := List.pairwise_cons.mp h
    unfold insI
    split
    · rename_i hij
      refine List.pairwise_cons.mpr ⟨fun k hk => ?_, h⟩
      rcases List.mem_cons.mp hk with rfl | hk
      · exact hij
      · exact Int.le_trans hij (h1 k hk)
    · rename_i hij
      refine List.pairwise_cons.mpr ⟨fun k hk => ?_, ih h2⟩
      rcases List.mem_cons.mp ((insI_perm i r).mem_iff.mp hk) with rfl | hk
      · omega
      · exact h1 k hk
theorem sortI_sorted (l : List Int) : (sortI l).Pairwise (· ≤ ·) := by
  induction l with
  | nil => exact .nil
  | cons i r ih => exact insI_sorted i _ ih
theorem sorted_one : ∀ {l l' : List Int}, l.Perm l' → l.Pairwise (· ≤ ·) → l'.Pairwise (· ≤ ·) → l = l'
  | [], l', p, _, _ => by rw [List.nil_perm.mp p]
  | a :: l, [], p, _, _ => by have := p.length_eq; simp at this
  | a :: l, b :: l', p, h, h' => by
    obtain ⟨h1, h2⟩ := List.pairwise_cons.mp h
    obtain ⟨h1', h2'⟩ := List.pairwise_cons.mp h'
    have e : a = b := by
      have m1 : b ∈ a :: l := p.symm.subset List.mem_cons_self
      have m2 : a ∈ b :: l' := p.subset List.mem_cons_self
      rcases List.mem_cons.mp m1 with z | z
      · exact z.symm
      · rcases List.mem_cons.mp m2 with y | y
        · exact y
        · have := h1 b z
          have := h1' a y
          omega
    subst e
    rw [sorted_one (List.Perm.cons_inv p) h2 h2']
theorem foldl_min (l : List Int) (i : Int) : (l.foldl min i ∈ i :: l) ∧ ∀ y ∈ i :: l, l.foldl min i ≤ y := by
  induction l generalizing i with
  | nil => simp
  | cons j r ih =>
    obtain ⟨h1, h2⟩ := ih (min i j)
    simp only [List.foldl_cons]
    refine ⟨?_, fun y hy => ?_⟩
    · rcases List.mem_cons.mp h1 with z | z
      · rw [z]
        rcases Int.le_total i j with k | k
        · rw [Int.min_eq_left k]; simp
        · rw [Int.min_eq_right k]; simp
      · exact List.mem_cons_of_mem _ (List.mem_cons_of_mem _ z)
    · have hm := h2 (min i j) List.mem_cons_self
      rcases List.mem_cons.mp hy with rfl | hy
      · exact Int.le_trans hm (Int.min_le_left _ _)
      · rcases List.mem_cons.mp hy with rfl | hy
        · exact Int.le_trans hm (Int.min_le_right _ _)
        · exact h2 y (List.mem_cons_of_mem _ hy)
theorem foldl_max (l : List Int) (i : Int) : (l.foldl max i ∈ i :: l) ∧ ∀ y ∈ i :: l, y ≤ l.foldl max i := by
  induction l generalizing i with
  | nil => simp
  | cons j r ih =>
    obtain ⟨h1, h2⟩ := ih (max i j)
    simp only [List.foldl_cons]
    refine ⟨?_, fun y hy => ?_⟩
    · rcases List.mem_cons.mp h1 with z | z
      · rw [z]
        rcases Int.le_total i j with k | k
        · rw [Int.max_eq_right k]; simp
        · rw [Int.max_eq_left k]; simp
      · exact List.mem_cons_of_mem _ (List.mem_cons_of_mem _ z)
    · have hm := h2 (max i j) List.mem_cons_self
      rcases List.mem_cons.mp hy with rfl | hy
      · exact Int.le_trans (Int.le_max_left _ _) hm
      · rcases List.mem_cons.mp hy with rfl | hy
        · exact Int.le_trans (Int.le_max_right _ _) hm
        · exact h2 y (List.mem_cons_of_mem _ hy)
/-! ### calls -/
section
variable {K : PySem.W.Frag} {mg : Str → Option Value} {O : Ad} {H : Hp}
theorem nw_lst {p : Addr} {vs : List V} {ds : List D} (lv : ∀ a, O a → H a ≠ none) (h : H p = none) (r : IsL K mg (hide O H) vs ds) : Nw K mg (.new 1) O H (upd H p (.lst vs)) (.ref p) (.list ds) :=
  ⟨fun a => a = p, ⟨p, fun _ => False, rfl, .inl ⟨vs, ds, upd_same, rfl, AllP.of_is (r.up (hide_new h fun a z => z))⟩, fun z => z, fun b => ⟨.inl, fun z => z.elim (fun y => y) fun y => y.elim⟩⟩, fun a z => ⟨fun y => lv a y (z ▸ h), z ▸ h⟩⟩
theorem nw_tup {p : Addr} {vs : List V} {ds : List D} (lv : ∀ a, O a → H a ≠ none) (h : H p = none) (r : IsL K mg (hide O H) vs ds) : Is K mg (hide O (upd H p (.tup vs))) (.ref p) (.tuple ds) :=
  .tup (.inl (.inl (hide_of (fun z => lv p z h) upd_same))) (r.up (hide_new h fun a z => .inl z))
def rTupO (K : PySem.W.Frag) : List V → Hp → VK → Prop := fun xs H Q => ∃ p ys, xs = [.ref p] ∧ ((SqL K H p ys ∧ ∀ l, H l = none → Q (.ref l) (upd H l (.tup ys))) ∨ (SqT K H p ys ∧ Q (.ref p) H))
theorem f_tuple : FnV K mg .fz (rTupO K) tupleD := fun O H x d u Q lv h hf k => by
  cases d with
  | list ds =>
    cases hf
    obtain ⟨a, xs, rfl, h1, h2⟩ := h.list
    exact ⟨a, xs, rfl, .inl ⟨.inl h1, fun l hl => k _ _ (Gr.upd hl) (nw_tup lv hl h2)⟩⟩
  | tuple ds =>
    cases hf
    have i := h.flat (fun _ e => by cases e) (fun _ e => by cases e)
    obtain ⟨a, xs, rfl, h1, h2⟩ := i.tuple_of
    exact ⟨a, xs, rfl, .inr ⟨SqT.up hide_grow h1, k _ _ Gr.refl i⟩⟩
  | _ => cases hf
def rLstO (K : PySem.W.Frag) : List V → Hp → VK → Prop := fun xs H Q => ∃ p ys, xs = [.ref p] ∧ (SqL K H p ys ∨ SqT K H p ys) ∧ ∀ l, H l = none → Q (.ref l) (upd H l (.lst ys))
theorem f_list : FnV K mg (.new 1) (rLstO K) listD := fun O H x d u Q lv h hf k => by
  cases d with
  | list ds =>
    cases hf
    obtain ⟨a, xs, rfl, h1, h2⟩ := h.list
    exact ⟨a, xs, rfl, .inl (.inl h1), fun l hl => k _ _ (Gr.upd hl) (nw_lst lv hl h2)⟩
  | tuple ds =>
    cases hf
    obtain ⟨a, xs, rfl, h1, h2⟩ := h.tuple
    exact ⟨a, xs, rfl, .inr h1, fun l hl => k _ _ (Gr.upd hl) (nw_lst lv hl h2)⟩
  | _ => cases hf
theorem f_sum : FnV K mg .fz (rSum K) sumD := fun O H x d u Q lv h hf k => by
  cases d with
  | list ds =>
    obtain ⟨a, xs, rfl, h1, h2⟩ := h.list
    obtain ⟨ns, e, rfl⟩ := Option.map_eq_some_iff.mp hf
    obtain ⟨rfl, rfl⟩ := ints_of h2 e
    exact ⟨a, ns, rfl, .inl h1, k _ _ Gr.refl (.int _)⟩
  | _ => cases hf
theorem f_min : FnV K mg .fz (rMin K) minD := fun O H x d u Q lv h hf k => by
  cases d with
  | list ds =>
    obtain ⟨a, xs, rfl, h1, h2⟩ := h.list
    obtain ⟨z, e, rfl⟩ := Option.map_eq_some_iff.mp hf
    obtain ⟨ns, e1, e2⟩ := Option.bind_eq_some_iff.mp e
    obtain ⟨rfl, rfl⟩ := ints_of h2 e1
    cases ns with
    | nil => cases e2
    | cons i r =>
      cases e2
      obtain ⟨m1, m2⟩ := foldl_min r i
      refine ⟨a, i :: r, rfl, .inl h1, Nat.zero_lt_succ _, fun m hm hl => ?_⟩
      have : m = r.foldl min i := Int.le_antisymm (hl _ m1) (m2 _ hm)
      subst this
      exact k _ _ Gr.refl (.int _)
  | _ => cases hf
theorem f_max : FnV K mg .fz (rMax K) maxD := fun O H x d u Q lv h hf k => by
  cases d with
  | list ds =>
    obtain ⟨a, xs, rfl, h1, h2⟩ := h.list
    obtain ⟨z, e, rfl⟩ := Option.map_eq_some_iff.mp hf
    obtain ⟨ns, e1, e2⟩ := Option.bind_eq_some_iff.mp e
    obtain ⟨rfl, rfl⟩ := ints_of h2 e1
    cases ns with
    | nil => cases e2
    | cons i r =>
      cases e2
      obtain ⟨m1, m2⟩ := foldl_max r i
      refine ⟨a, i :: r, rfl, .inl h1, Nat.zero_lt_succ _, fun m hm hl => ?_⟩
      have : m = r.foldl max i := Int.le_antisymm (m2 _ hm) (hl _ m1)
      subst this
      exact k _ _ Gr.refl (.int _)
  | _ => cases hf
theorem f_sorted : FnV K mg (.new 1) (rSortedI K) sortedD := fun O H x d u Q lv h hf k => by
  cases d with
  | list ds =>
    obtain ⟨a, xs, rfl, h1, h2⟩ := h.list
    obtain ⟨ns, e, rfl⟩ := Option.map_eq_some_iff.mp hf
    obtain ⟨rfl, rfl⟩ := ints_of h2 e
    refine ⟨a, ns, rfl, .inl h1, fun ns' p hp hs hn => ?_⟩
    have := sorted_one (hp.trans (sortI_perm ns).symm) hs (sortI_sorted ns)
    subst this
    exact k _ _ (Gr.upd hn) (nw_lst lv hn (intsL _))
  | _ => cases hf
theorem f_any : FnV K mg .fz (rAny K) anyD := fun O H x d u Q lv h hf k => by
  cases d with
  | list ds =>
    obtain ⟨a, xs, rfl, h1, h2⟩ := h.list
    obtain ⟨bs, e, rfl⟩ := Option.map_eq_some_iff.mp hf
    have z := bools_of h2 e
    subst z
    exact ⟨a, bs, rfl, .inl h1, k _ _ Gr.refl (.bl _)⟩
  | _ => cases hf
theorem f_all : FnV K mg .fz (rAll K) allD := fun O H x d u Q lv h hf k => by
  cases d with
  | list ds =>
    obtain ⟨a, xs, rfl, h1, h2⟩ := h.list
    obtain ⟨bs, e, rfl⟩ := Option.map_eq_some_iff.mp hf
    have z := bools_of h2 e
    subst z
    exact ⟨a, bs, rfl, .inl h1, k _ _ Gr.refl (.bl _)⟩
  | _ => cases hf
theorem Vw.intOf {x : V} {i : Int} (h : Vw K mg O H x (.int i)) : x = .int i := (h.flat (fun _ e => by cases e) (fun _ e => by cases e)).int_of
theorem Vw.boolOf {x : V} {b : Bool} (h : Vw K mg O H x (.bool b)) : x = .bl b := (h.flat (fun _ e => by cases e) (fun _ e => by cases e)).bool_of
theorem f_abs : FnV K mg .fz (fun xs H Q => ∃ i, xs = [.int i] ∧ Q (.int (if i < 0 then -i else i)) H) absD := fun O H x d u Q lv h hf k => by
  cases d with
  | int i =>
    cases hf
    rw [h.intOf]
    exact ⟨i, rfl, k _ _ Gr.refl (.int _)⟩
  | _ => cases hf
theorem f_int : FnV K mg .fz (fun xs H Q => (∃ i, xs = [.int i] ∧ Q (.int i) H) ∨ ∃ k, xs = [.bl k] ∧ Q (.int (if k then 1 else 0)) H) intD := fun O H x d u Q lv h hf k => by
  cases d with
  | int i =>
    cases hf
    rw [h.intOf]
    exact .inl ⟨i, rfl, k _ _ Gr.refl (.int _)⟩
  | bool b =>
    cases hf
    rw [h.boolOf]
    exact .inr ⟨b, rfl, k _ _ Gr.refl (.int _)⟩
  | _ => cases hf
theorem two_ints {G : Hp} {f : List D → Option D} (hf : ∀ ds u, f ds = some u → ∃ i j, ds = [.int i, .int j]) {xs : List V} {ds : List D} {u : D} (h : IsL K mg G xs ds) (e : f ds = some u) : ∃ i j, ds = [.int i, .int j] ∧ xs = [.int i, .int j] := by
  obtain ⟨i, j, rfl⟩ := hf ds u e
  cases h with
  | cons a r =>
    cases r with
    | cons b r =>
      cases r
      exact ⟨i, j, rfl, by rw [a.int_of, b.int_of]⟩
theorem f_min2 : FnA K mg .fz (fun xs H Q => ∃ i j, xs = [.int i, .int j] ∧ Q (.int (if j < i then j else i)) H) min2D := fun O H xs ds u Q lv h hf k => by
  obtain ⟨i, j, rfl, rfl⟩ := two_ints (f := min2D) (fun ds u e => by unfold min2D at e; split at e; exact ⟨_, _, rfl⟩; cases e) h hf
  cases hf
  exact ⟨i, j, rfl, k _ _ Gr.refl (.int _)⟩
theorem f_max2 : FnA K mg .fz (fun xs H Q => ∃ i j, xs = [.int i, .int j] ∧ Q (.int (if j > i then j else i)) H) max2D := fun O H xs ds u Q lv h hf k => by
  obtain ⟨i, j, rfl, rfl⟩ := two_ints (f := max2D) (fun ds u e => by unfold max2D at e; split at e; exact ⟨_, _, rfl⟩; cases e) h hf
  cases hf
  exact ⟨i, j, rfl, k _ _ Gr.refl (.int _)⟩
theorem f_gcd : FnA K mg .fz rGcd gcdD := fun O H xs ds u Q lv h hf k => by
  obtain ⟨i, j, rfl, rfl⟩ := two_ints (f := gcdD) (fun ds u e => by unfold gcdD at e; split at e; exact ⟨_, _, rfl⟩; cases e) h hf
  cases hf
  exact ⟨i, j, rfl, k _ _ Gr.refl (.int _)⟩
/-! ### isinstance with a built-in type -/
theorem Vw.ty {x : V} {d : D} {t : String} (h : Vw K mg O H x d) (e : tyN d = some t) : TyX K H x (.type t) := by
  cases d with
  | none => cases e; rw [(h.flat (fun _ e => by cases e) (fun _ e => by cases e)).none_of]; exact .base .non
  | bool b => cases e; rw [h.boolOf]; exact .base (.bl b)
  | int i => cases e; rw [h.intOf]; exact .base (.int i)
  | str z => cases e; rw [(h.flat (fun _ e => by cases e) (fun _ e => by cases e)).str_of]; exact .base (.str z)
  | list ds =>
    cases e
    obtain ⟨a, xs, rfl, h1, h2⟩ := h.list
    rcases h1 with h1 | ⟨o, h1⟩
    · exact .base (.lst h1)
    · exact .base (.frz h1)
  | tuple ds =>
    cases e
    obtain ⟨a, xs, rfl, h1, h2⟩ := h.tuple
    rcases h1 with (h1 | ⟨o, h1⟩) | ⟨o, its, n, h1, h3, _⟩
    · exact .base (.tup h1)
    · exact .fTuple h1
    · exact .kTuple h1 h3
  | dict kvs =>
    obtain ⟨nn, hd, rfl⟩ := Option.map_eq_some_iff.mp e
    rcases h with h | ⟨a, rfl, h⟩
    · cases h with
      | dK h1 h2 => exact .base (.dK (hide_raw h1))
      | dT h1 h2 => exact .base (.dT (hide_raw h1))
      | fn h1 => cases hd
      | lam _ _ _ => cases hd
    · rcases h with ⟨vs, ds', h1, h2, h3⟩ | ⟨kvs, ds', h1, h2, h3⟩ | ⟨kvs, ds', h1, h2, h3⟩
      · cases h2
      · exact .base (.dK h1)
      · exact .base (.dT h1)
theorem kit_tab {t T : String} (ht : t ∈ ["NoneType", "bool", "int", "str", "list", "tuple", "dict"]) (hT : T ∈ ["bool", "int", "str", "list", "tuple", "dict"]) : kitB t T = some (t == T || (t == "bool" && T == "int")) := by
  simp only [List.mem_cons, List.not_mem_nil, or_false] at ht hT
  rcases ht with rfl | rfl | rfl | rfl | rfl | rfl | rfl <;> rcases hT with rfl | rfl | rfl | rfl | rfl | rfl <;> decide +kernel
theorem tyN_mem {d : D} {t : String} (e : tyN d = some t) : t ∈ ["NoneType", "bool", "int", "str", "list", "tuple", "dict"] := by
  cases d with
  | dict kvs =>
    obtain ⟨nn, hd, rfl⟩ := Option.map_eq_some_iff.mp e
    decide
  | _ => cases e; decide
end
section
variable {X : Cx} {C : Cd} {m : List Mode} {q q' : Bool} {a : Expr} {fa : M D} {p p2 pos : Pos} {ka : Kd}
theorem pd_isi {T : String} {x : Str} (A : Agr X C) (hT : T ∈ ["bool", "int", "str", "list", "tuple", "dict"]) (hv : bootBuiltins x = some (.type T)) (hm : X.mg "isinstance" = none) (hmT : X.mg x = none) (ha : PE X a (tE C m q ka fa)) (hk : vwK ka = true := by rfl)
    (hg : Gl X "isinstance" := by rfl) (hgT : Gl X x := by rfl) (hn : x ≠ "__name__" := by decide) (hdb : (x == ("__debug__" : Str)) = false := by decide)
    (hs : starEach [a, .Name x p2] X.env = (false, eval a X.env) :: starEach [.Name x p2] X.env := by rfl) (hs2 : starEach [.Name x p2] X.env = (false, eval (.Name x p2) X.env) :: starEach [] X.env := by rfl) (hpl : (backTo pos (starEach [.Name x p2] X.env)).any (·.1) = false := by rfl) :
    PE X (.Call (.Name "isinstance" p) [a, .Name x p2] [] pos) (tE C m q .fz (un (isiD T) fa)) :=
  PE.imp (pe_callB call_isi hg hm boot_isinstance (pa_cons ha (pa_cons (pe_bltn (v := .ty T) hgT hmT hv rfl hn hdb) pa_nil hs2) hs) (by decide) (by decide) hs hpl) fun σ H Q ⟨ρ, fp, R, p⟩ => by
    refine ⟨ρ, fp, R, p.bnd.imp fun d ρ1 p1 v1 H1 fp1 F1 R1 e1 q1 r1 => ?_⟩
    obtain ⟨u, hu, kk⟩ := p1.lft
    obtain ⟨t, ht, rfl⟩ := Option.map_eq_some_iff.mp hu
    refine ⟨v1, .ty T, .type t, .type T, _, rfl, .ty T, ?_, kit_ty (kit_tab (tyN_mem ht) hT), ?_⟩
    · rw [A.K]; exact (r1.vw hk R1.rep).ty ht
    · exact kk _ H1 fp1 (fun _ => False) R1.rep e1 q1 ⟨.bl _, fun _ z => z⟩
end
end Dn

/-! DnG -/
set_option Elab.async false
set_option linter.all false
set_option maxRecDepth 100000
/-! Dn, part G: items, slices, joins, membership. -/
namespace Dn
open PySem PySem.Spec PyProof.Rows L2
variable [LamTab]
section
variable {K : PySem.W.Frag} {mg : Str → Option Value} {G H : Hp} {O : Ad}
theorem IsL.atI {xs : List V} {ds : List D} {i : Int} {u : D} (h : IsL K mg G xs ds) (e : L2.atI ds i = some u) : ∃ v, L2.atI xs i = some v ∧ Is K mg G v u := by
  unfold L2.atI at e ⊢
  obtain ⟨j, h1, h2⟩ := Option.bind_eq_some_iff.mp e
  obtain ⟨v, h3, h4⟩ := h.getD h2
  exact ⟨v, by rw [h.length, h1]; exact h3, h4⟩
theorem o_item : OpD K mg (rIx K) itemD := fun O H x y d e u Q lv hx hy hf k => by
  cases d with
  | list ds =>
    cases e with
    | int i =>
      obtain ⟨a, xs, rfl, h1, h2⟩ := hx.list_of
      obtain ⟨v, h3, h4⟩ := h2.atI hf
      rw [hy.int_of]
      exact .inl ⟨a, xs, i, v, rfl, rfl, .inl (Rd.up hide_grow h1), h3, k v H Gr.refl h4⟩
    | _ => cases hf
  | tuple ds =>
    cases e with
    | int i =>
      obtain ⟨a, xs, rfl, h1, h2⟩ := hx.tuple_of
      obtain ⟨v, h3, h4⟩ := h2.atI hf
      rw [hy.int_of]
      exact .inr (.inl ⟨a, xs, i, v, rfl, rfl, SqT.up hide_grow h1, h3, k v H Gr.refl h4⟩)
    | _ => cases hf
  | str z =>
    cases e with
    | int i =>
      simp only [itemD] at hf
      split at hf
      · rename_i hz
        obtain ⟨c, e1, rfl⟩ := Option.map_eq_some_iff.mp hf
        rw [hx.str_of, hy.int_of]
        exact .inr (.inr ⟨z, i, c, rfl, rfl, by rw [← lineN_eq]; exact hz, e1, k _ H Gr.refl (.str _)⟩)
      · cases hf
    | _ => cases hf
  | _ => cases hf
theorem AllP.getD {P : V → D → Ad → Prop} : ∀ {vs : List V} {ds : List D} {F : Ad} {i : Nat} {u : D}, AllP P vs ds F → ds[i]? = some u → ∃ v F1, vs[i]? = some v ∧ P v u F1 ∧ ∀ a, F1 a → F a
  | [], [], _, _, _, _, e => by simp at e
  | v :: vs, d :: ds, F, 0, u, ⟨F1, F2, h1, h2, h3, h4⟩, e => by
    simp at e
    subst e
    exact ⟨v, F1, rfl, h1, fun a q => (h4 a).mpr (.inl q)⟩
  | v :: vs, d :: ds, F, i + 1, u, ⟨F1, F2, h1, h2, h3, h4⟩, e => by
    obtain ⟨w, F3, q1, q2, q3⟩ := AllP.getD (i := i) (u := u) h2 (by simpa using e)
    exact ⟨w, F3, by simpa using q1, q2, fun a q => (h4 a).mpr (.inr (q3 a q))⟩
theorem AllP.length {P : V → D → Ad → Prop} : ∀ {vs : List V} {ds : List D} {F : Ad}, AllP P vs ds F → vs.length = ds.length
  | [], [], _, _ => rfl
  | v :: vs, d :: ds, F, ⟨F1, F2, h1, h2, h3, h4⟩ => congrArg (· + 1) h2.length
theorem AllP.atI {P : V → D → Ad → Prop} {vs : List V} {ds : List D} {F : Ad} {i : Int} {u : D} (h : AllP P vs ds F) (e : L2.atI ds i = some u) : ∃ v F1, L2.atI vs i = some v ∧ P v u F1 ∧ ∀ a, F1 a → F a := by
  unfold L2.atI at e ⊢
  obtain ⟨j, h1, h2⟩ := Option.bind_eq_some_iff.mp e
  obtain ⟨v, F1, h3, h4, h5⟩ := h.getD h2
  exact ⟨v, F1, by rw [h.length, h1]; exact h3, h4, h5⟩
end
section
variable {X : Cx} {C : Cd} {m : List Mode} {q q' : Bool} {a b : Expr} {fa fb : M D} {pos : Pos}
theorem pd_item (A : Agr X C) (ha : PE X a (tE C m q .fz fa)) (hb : PE X b (tE C m q' .fz fb)) (hs : PlainIx b := by intro _ _; rfl) : PE X (.Subscript a b pos) (tE C m (q && q') .fz (bin itemD fa fb)) :=
  PE.imp (pe_ix (by rw [← A.K]; exact ix_seq) ha hb hs) fun _ _ _ h => bin_of (r := rIx C.K) o_item h
/-- an item of an owned list -/
theorem pd_itemB {n : Nat} (A : Agr X C) (ha : PE X a (tE C m q (.bor (n + 1)) fa)) (hb : PE X b (tE C m true .fz fb)) (hs : PlainIx b := by intro _ _; rfl) : PE X (.Subscript a b pos) (tE C m q (.bor n) (bin itemD fa fb)) :=
  PE.imp (pe_ix ix_list ha hb hs) fun σ H Q ⟨ρ, fp, R, p⟩ => by
    refine ⟨ρ, fp, R, p.bnd.imp fun x ρ1 p1 v1 H1 fp1 F1 R1 e1 q1 r1 => ⟨ρ1, fp1, R1.rep, (p1.later e1).bnd.imp fun y ρ2 p2 v2 H2 fp2 F2 R2 e2 q2 r2 => ?_⟩⟩
    obtain ⟨u, hu, k⟩ := p2.lft
    obtain ⟨rfl, rfl, g⟩ := q2 rfl
    obtain ⟨o, fo⟩ := r1
    have o' := o.keep (G' := hide (own C.M fp2) H2) (H' := H2) (hide_up g.g) fun a o _ z nt => g.g a o z nt
    obtain ⟨aa, F', rfl, bx, na, hF⟩ := o'
    rw [A.K]
    have fin : ∀ (v : V) (F3 : Ad), Ow C.K C.mg (hide (own C.M fp2) H2) H2 n v u F3 → (∀ a, F3 a → F1 a) → Q v H2 := fun v F3 h1 h2 =>
      k v H2 fp2 F3 R2 (e1.trans e2) (fun z => by
        obtain ⟨z1, z2, z3⟩ := q1 z
        exact ⟨z1, z2, z3.trans g⟩) ⟨h1, fun a z => fo a (h2 a z)⟩
    rcases bx with ⟨vs, ds, h1, rfl, h3⟩ | ⟨kvs, ds, h1, rfl, h3⟩ | ⟨kvs, ds, h1, rfl, h3⟩
    · cases y with
      | int i =>
        obtain ⟨v, F3, h4, h5, h6⟩ := h3.atI hu
        have z := r2.1.int_of
        subst z
        exact ⟨aa, vs, i, v, rfl, rfl, .of h1, h4, fin v F3 h5 fun a z => (hF a).mpr (.inr (h6 a z))⟩
      | _ => cases hu
    · cases hu
    · cases hu
/-! ### slices -/
def tP (C : Cd) (m : List Mode) (q : Bool) (f : PartM) : TO := fun σ H Q => ∃ ρ fp, Rep C m ρ σ H fp ∧ Pst C fp H (fun o ρ' => ∀ H' fp', Rep C m ρ' σ H' fp' → Evo fp H fp' H' → Qt q ρ ρ' fp fp' H H' → Q o H') (f ρ)
theorem PO.imp {e : Option Expr} {t t' : TO} (h : PO X e t) (i : ∀ σ H Q, t' σ H Q → t σ H Q) : PO X e t' := ⟨fun pins s σ H Q I q => h.run pins s σ H Q I (i σ H Q q)⟩
theorem po_noD : PO X none (tP C m true noPart) := PO.imp po_none fun σ H Q ⟨ρ, fp, R, p⟩ => p H fp R .refl .refl
theorem po_someD (ha : PE X a (tE C m q .fz fa)) : PO X (some a) (tP C m q (part fa)) := PO.imp (po_some ha) fun σ H Q ⟨ρ, fp, R, p⟩ => by
  refine ⟨ρ, fp, R, p.bnd.imp fun x ρ1 p1 v1 H1 fp1 F1 R1 e1 q1 r1 => ?_⟩
  obtain ⟨i, hi, k⟩ := p1.bnd.lft
  cases x with
  | int j =>
    cases hi
    exact ⟨_, r1.1.int_of, k H1 fp1 R1 e1 q1⟩
  | _ => cases hi
def SlV (K : PySem.W.Frag) (mg : Str → Option Value) (k : Kd) (r : V → Option Int → Option Int → Hp → VK → Prop) (f : D → Option Int → Option Int → Option D) : Prop := ∀ (O : Ad) (H : Hp) (x : V) (d u : D) (lo hi : Option Int) (Q : VK), (∀ a, O a → H a ≠ none) → Vw K mg O H x d → f d lo hi = some u →
  (∀ v H', Gr H H' → Nw K mg k O H H' v u → Q v H') → r x lo hi H Q
theorem slice_of {k ka : Kd} {q1 q2 q3 : Bool} {r : V → Option Int → Option Int → Hp → VK → Prop} {f : D → Option Int → Option Int → Option D} {lo hi : PartM} (hf : SlV C.K C.mg k r f) (hk : vwK ka = true) (hq : ka = .fz ∨ (q2 = true ∧ q3 = true)) {σ : L2.St} {H : Hp} {Q : VK}
    (h : tE C m (q1 && (q2 && q3)) k (bnd fa fun x => bnd lo fun l => bnd hi fun h => lft (f x l h)) σ H Q) : tSl r (tE C m q1 ka fa) (tP C m q2 lo) (tP C m q3 hi) σ H Q := by
  obtain ⟨ρ, fp, R, p⟩ := h
  refine ⟨ρ, fp, R, p.bnd.imp fun x ρ1 p1 v1 H1 fp1 F1 R1 e1 qq1 r1 => ⟨ρ1, fp1, R1.rep, (p1.later e1).bnd.imp fun l ρ2 p2 H2 fp2 R2 e2 qq2 => ⟨ρ2, fp2, R2, (p2.later e2).bnd.imp fun h ρ3 p3 H3 fp3 R3 e3 qq3 => ?_⟩⟩⟩
  obtain ⟨u, hu, kk⟩ := p3.lft
  have e23 := e2.trans e3
  have e13 := e1.trans e23
  have vw : Vw C.K C.mg (own C.M fp3) H3 v1 x := by
    rcases hq with rfl | ⟨rfl, rfl⟩
    · exact .inl (r1.1.up (e23.fz R1.rep.ml))
    · obtain ⟨rfl, rfl, g2⟩ := qq2 rfl
      obtain ⟨rfl, rfl, g3⟩ := qq3 rfl
      have g := g2.trans g3
      rcases r1.vw hk R1.rep with z | ⟨a, rfl, z⟩
      · exact .inl (z.up (hide_up g.g))
      · exact .inr ⟨a, rfl, z.mono (fun o y nt => g.g _ _ y nt) fun vs ds y => y.up (hide_up g.g)⟩
  refine hf (own C.M fp3) H3 v1 x u l h Q R3.live vw hu fun v H4 g n => ?_
  obtain ⟨F, Rk, rs⟩ := n.res R3 e13 g
  refine kk v H4 fp3 F Rk (e13.mono g) (fun z => ?_) rs
  simp only [Bool.and_eq_true] at z
  exact ((qq1.trans (qq2.trans qq3)).grw g) (by rw [z.1, z.2.1, z.2.2]; rfl)
theorem cut_is {K : PySem.W.Frag} {mg : Str → Option Value} {G : Hp} {xs : List V} {ds : List D} {lo hi : Option Int} (h : IsL K mg G xs ds) : IsL K mg G (cutV xs lo hi) (cutL ds lo hi) := by
  unfold cutV cutL
  rw [h.length]
  exact (h.drop _).take _
def slTupD (x : D) (lo hi : Option Int) : Option D := match x with
  | .tuple xs => some (.tuple (cutL xs lo hi))
  | _ => none
def slLstD (x : D) (lo hi : Option Int) : Option D := match x with
  | .list xs => some (.list (cutL xs lo hi))
  | _ => none
def sliT (a : M D) (lo hi : PartM) : M D := bnd a fun x => bnd lo fun l => bnd hi fun h => lft (slTupD x l h)
def sliL (a : M D) (lo hi : PartM) : M D := bnd a fun x => bnd lo fun l => bnd hi fun h => lft (slLstD x l h)
theorem cut_whole {xs : List V} {lo hi : Option Int} (h : HT.sIx xs.length 0 lo = 0 ∧ HT.sIx xs.length xs.length hi = xs.length) : cutV xs lo hi = xs := by
  unfold cutV
  rw [h.1, h.2]
  simp
theorem s_tup {K : PySem.W.Frag} {mg : Str → Option Value} : SlV K mg .fz (rSlA K) slTupD := fun O H x d u lo hi Q lv h hf k => by
  cases d with
  | tuple ds =>
    cases hf
    have i := h.flat (fun _ e => by cases e) (fun _ e => by cases e)
    obtain ⟨a, xs, rfl, h1, h2⟩ := i.tuple_of
    refine ⟨a, xs, rfl, SqT.up hide_grow h1, fun w => ?_, fun _ p hp => k _ _ (Gr.upd hp) (nw_tup lv hp (cut_is h2))⟩
    have c := cut_is (lo := lo) (hi := hi) h2
    rw [cut_whole w] at c
    exact k _ _ Gr.refl (.tup h1 c)
  | _ => cases hf
theorem s_lst {K : PySem.W.Frag} {mg : Str → Option Value} : SlV K mg (.new 1) (rSlL K) slLstD := fun O H x d u lo hi Q lv h hf k => by
  cases d with
  | list ds =>
    cases hf
    obtain ⟨a, xs, rfl, h1, h2⟩ := h.list
    exact ⟨a, xs, rfl, .inl h1, fun p hp => k _ _ (Gr.upd hp) (nw_lst lv hp (cut_is h2))⟩
  | _ => cases hf
variable {lo hi : Option Expr} {fl fh : PartM} {p2 : Pos} {q1 q2 q3 : Bool} {ka : Kd}
theorem pd_sliT (A : Agr X C) (ha : PE X a (tE C m q1 ka fa)) (hl : PO X lo (tP C m q2 fl)) (hh : PO X hi (tP C m q3 fh)) (hk : vwK ka = true := by rfl) (hq : ka = .fz ∨ (q2 = true ∧ q3 = true) := by first | exact .inl rfl | exact .inr ⟨rfl, rfl⟩) :
    PE X (.Subscript a (.Slice lo hi none p2) pos) (tE C m (q1 && (q2 && q3)) .fz (sliT fa fl fh)) := PE.imp (pe_slice (by rw [← A.K]; exact sl_tupA) ha hl hh) fun _ _ _ h => slice_of (r := rSlA C.K) s_tup hk hq h
theorem pd_sliL (A : Agr X C) (ha : PE X a (tE C m q1 ka fa)) (hl : PO X lo (tP C m q2 fl)) (hh : PO X hi (tP C m q3 fh)) (hk : vwK ka = true := by rfl) (hq : ka = .fz ∨ (q2 = true ∧ q3 = true) := by first | exact .inl rfl | exact .inr ⟨rfl, rfl⟩) :
    PE X (.Subscript a (.Slice lo hi none p2) pos) (tE C m (q1 && (q2 && q3)) (.new 1) (sliL fa fl fh)) := PE.imp (pe_slice (by rw [← A.K]; exact sl_list) ha hl hh) fun _ _ _ h => slice_of (r := rSlL C.K) s_lst hk hq h
end
/-! ### joins -/
section
variable {X : Cx} {K : PySem.W.Frag} {mg : Str → Option Value}
/-- list + list, of any lists that may be read -/
def rCatR : R2 := fun x y H Q => ∃ l b xs zs, x = .ref l ∧ y = .ref b ∧ Rd H l (.lst xs) ∧ Rd H b (.lst zs) ∧ xs.length + zs.length ≤ sizeLine ∧ ∀ p, H p = none → Q (.ref p) (upd H p (.lst (xs ++ zs)))
theorem Inv.lstR {pins : List (Addr × Obj)} {σ : L2.St} {H : Hp} {s : Shared} {l : Addr} {xs : List V} (I : Inv X pins σ H s) (h : Rd H l (.lst xs)) : ∃ (its : List Value) (n : Nat), Vals xs its ∧ xs.length = its.length ∧ s.heap.get? l = some { cls := .type "list", data := .seq its.toArray n } := by
  obtain ⟨_, its, n, r, e⟩ := h.ok I.hok
  exact ⟨its, n, r, r.length, e⟩
theorem op_catR : OpR X (binaryOp .Add) rCatR := by
  intro pins s σ H x y v u Q I rx ry h
  obtain ⟨l, b, xs, zs, rfl, rfl, hl, hb, hz, q⟩ := h
  obtain rfl : v = Value.ref l := rx
  obtain rfl : u = Value.ref b := ry
  obtain ⟨its, n, r, len, e⟩ := Dn.Inv.lstR I hl
  obtain ⟨its2, n2, r2, len2, e2⟩ := Dn.Inv.lstR I hb
  refine PySem.P.add_list e e2 ?_ (by simp only [List.size_toArray]; omega)
  rw [show its.toArray ++ its2.toArray = (its ++ its2).toArray by simp]
  exact ⟨V.ref _, _, I.lnew (t' := s.toks) (r.append r2) (by rw [List.length_append]; omega), rfl, q _ I.fresh⟩
def catL : Op2 := fun d e => match d, e with
  | .list xs, .list ys => if xs.length + ys.length ≤ lineN then some (.list (xs ++ ys)) else none
  | _, _ => none
def catT : Op2 := fun d e => match d, e with
  | .tuple xs, .tuple ys => if xs.length + ys.length ≤ lineN then some (.tuple (xs ++ ys)) else none
  | _, _ => none
def catS : Op2 := fun d e => match d, e with
  | .str x, .str y => if x.length + y.length ≤ lineN then some (.str (x ++ y)) else none
  | _, _ => none
def repL : Op2 := fun d e => match d, e with
  | .list xs, .int k => if -(2 ^ 63) ≤ k ∧ k < 2 ^ 63 ∧ xs.length * k.toNat ≤ lineN then some (.list (List.replicate k.toNat xs).flatten) else none
  | _, _ => none
theorem o_catT : OpD K mg (rCatA K) catT := fun O H x y d e u Q lv hx hy hf k => by
  unfold catT at hf
  split at hf
  · rename_i xs ys
    split at hf
    · rename_i hl
      cases hf
      obtain ⟨a, vs, rfl, h1, h2⟩ := hx.tuple_of
      obtain ⟨b, ws, rfl, h3, h4⟩ := hy.tuple_of
      refine ⟨a, b, vs, ws, rfl, rfl, SqT.up hide_grow h1, SqT.up hide_grow h3, by rw [h2.length, h4.length, ← lineN_eq]; exact hl, fun z => ?_, fun _ z => ?_, fun _ _ p hp => k _ _ (Gr.upd hp) (nw_tup lv hp (h2.append h4))⟩
      · subst z
        cases h2
        exact k _ _ Gr.refl hy
      · subst z
        cases h4
        rw [List.append_nil] at k
        exact k _ _ Gr.refl hx
    · cases hf
  · cases hf
theorem o_catS : OpC K mg (fun x y H Q => ∃ i j, x = .str i ∧ y = .str j ∧ i.length + j.length ≤ sizeLine ∧ Q (.str (i ++ j)) H) catS := fun G H x y d e u Q g hx hy hf k => by
  unfold catS at hf
  split at hf
  · split at hf
    · rename_i hl
      cases hf
      exact ⟨_, _, hx.str_of, hy.str_of, by rw [← lineN_eq]; exact hl, k _ fun _ => .str _⟩
    · cases hf
  · cases hf
end
/-- an operator on values that may be read, with a new list -/
def OpV (K : PySem.W.Frag) (mg : Str → Option Value) (k : Kd) (r : R2) (f : Op2) : Prop := ∀ (O : Ad) (H : Hp) (x y : V) (d e u : D) (Q : VK), (∀ a, O a → H a ≠ none) → Vw K mg O H x d → Vw K mg O H y e → f d e = some u →
  (∀ v H', Gr H H' → Nw K mg k O H H' v u → Q v H') → r x y H Q
section
variable {X : Cx} {C : Cd} {m : List Mode} {q q' : Bool} {a b : Expr} {fa fb : M D} {pos : Pos} {k ka kb : Kd}
theorem Vw.later {K : PySem.W.Frag} {mg : Str → Option Value} {O : Ad} {H H' : Hp} {x : V} {d : D} (h : Vw K mg O H x d) (g : Gr H H') : Vw K mg O H' x d := by
  rcases h with z | ⟨a, rfl, z⟩
  · exact .inl (z.up (hide_up g.g))
  · exact .inr ⟨a, rfl, z.mono (fun o y nt => g.g _ _ y nt) fun vs ds y => y.up (hide_up g.g)⟩
theorem opV_of {r : R2} {f : Op2} (hf : OpV C.K C.mg k r f) (hka : vwK ka = true) (hkb : vwK kb = true) (hq : ka = .fz ∨ q' = true) {σ : L2.St} {H : Hp} {Q : VK} (h : tE C m (q && q') k (bin f fa fb) σ H Q) : tOp r (tE C m q ka fa) (tE C m q' kb fb) σ H Q := by
  obtain ⟨ρ, fp, R, p⟩ := h
  refine ⟨ρ, fp, R, p.bnd.imp fun x ρ1 p1 v1 H1 fp1 F1 R1 e1 q1 r1 => ⟨ρ1, fp1, R1.rep, (p1.later e1).bnd.imp fun y ρ2 p2 v2 H2 fp2 F2 R2 e2 q2 r2 => ?_⟩⟩
  obtain ⟨u, hu, kk⟩ := p2.lft
  have vw : Vw C.K C.mg (own C.M fp2) H2 v1 x := by
    rcases hq with rfl | rfl
    · exact .inl (r1.1.up (e2.fz R1.rep.ml))
    · obtain ⟨rfl, rfl, g⟩ := q2 rfl
      exact (r1.vw hka R1.rep).later g
  have R2 := R2.rep
  refine hf (own C.M fp2) H2 v1 v2 x y u Q R2.live vw (r2.vw hkb R2) hu fun v H3 g n => ?_
  obtain ⟨F, Rk, rs⟩ := n.res R2 (e1.trans e2) g
  exact kk v H3 fp2 F Rk ((e1.trans e2).mono g) ((q1.trans q2).grw g) rs
theorem o_catL {K : PySem.W.Frag} {mg : Str → Option Value} : OpV K mg (.new 1) rCatR catL := fun O H x y d e u Q lv hx hy hf k => by
  unfold catL at hf
  split at hf
  · split at hf
    · rename_i hl
      cases hf
      obtain ⟨a, vs, rfl, h1, h2⟩ := hx.list
      obtain ⟨b, ws, rfl, h3, h4⟩ := hy.list
      exact ⟨a, b, vs, ws, rfl, rfl, h1, h3, by rw [h2.length, h4.length, ← lineN_eq]; exact hl, fun p hp => k _ _ (Gr.upd hp) (nw_lst lv hp (h2.append h4))⟩
    · cases hf
  · cases hf
theorem pd_catL (ha : PE X a (tE C m q ka fa)) (hb : PE X b (tE C m q' kb fb)) (hka : vwK ka = true := by rfl) (hkb : vwK kb = true := by rfl) (hq : ka = .fz ∨ q' = true := by first | exact .inl rfl | exact .inr rfl) : PE X (.BinOp a .Add b pos) (tE C m (q && q') (.new 1) (bin catL fa fb)) :=
  PE.imp (pe_op op_catR ha hb) fun _ _ _ h => opV_of o_catL hka hkb hq h
theorem pd_catT (A : Agr X C) (ha : PE X a (tE C m q .fz fa)) (hb : PE X b (tE C m q' .fz fb)) : PE X (.BinOp a .Add b pos) (tE C m (q && q') .fz (bin catT fa fb)) := pd_bin o_catT (by rw [← A.K]; exact op_catA) ha hb
theorem pd_catS (ha : PE X a (tE C m q .fz fa)) (hb : PE X b (tE C m q' .fz fb)) : PE X (.BinOp a .Add b pos) (tE C m (q && q') .fz (bin catS fa fb)) := pd_bin o_catS.d op_add_str ha hb
/-! ### membership -/
def rInS (K : PySem.W.Frag) : R2 := fun x y H Q => ∃ d ds, Dp K H x d ∧ (Dp K H y (.list ds) ∨ Dp K H y (.tuple ds)) ∧ SeqAt.shaped d = true ∧ SeqAt.shaped (.list ds) = true ∧ Q (.bl (ds.any fun z => PyData.eqv z d)) H
def rNotInS (K : PySem.W.Frag) : R2 := fun x y H Q => ∃ d ds, Dp K H x d ∧ (Dp K H y (.list ds) ∨ Dp K H y (.tuple ds)) ∧ SeqAt.shaped d = true ∧ SeqAt.shaped (.list ds) = true ∧ Q (.bl (!ds.any fun z => PyData.eqv z d)) H
theorem op_inS (hu : X.A.units + 65 < cLine) : OpR X (compareOp .In) (rInS X.K) := by
  intro pins s σ H x y v u Q I rx ry h
  obtain ⟨d, ds, hd, he, sd, se, q⟩ := h
  obtain ⟨as, r1⟩ := Dp.reads I d x v hd rx
  rcases he with he | he
  · obtain ⟨bs, r2⟩ := Dp.reads I (.list ds) y u he ry
    exact SeqAt.in_list_reads r2 r1 (SeqAt.canLay_of_shaped se) (SeqAt.canLay_of_shaped sd) (room_in_shaped sd hu) ⟨.bl _, H, I, rfl, q⟩
  · obtain ⟨bs, r2⟩ := Dp.reads I (.tuple ds) y u he ry
    exact SeqAt.in_tuple_reads r2 r1 (SeqAt.canLay_of_shaped se) (SeqAt.canLay_of_shaped sd) (room_in_shaped sd hu) ⟨.bl _, H, I, rfl, q⟩
theorem op_notInS (hu : X.A.units + 65 < cLine) : OpR X (compareOp .NotIn) (rNotInS X.K) := by
  intro pins s σ H x y v u Q I rx ry h
  obtain ⟨d, ds, hd, he, sd, se, q⟩ := h
  obtain ⟨as, r1⟩ := Dp.reads I d x v hd rx
  rcases he with he | he
  · obtain ⟨bs, r2⟩ := Dp.reads I (.list ds) y u he ry
    exact SeqAt.notIn_list_reads r2 r1 (SeqAt.canLay_of_shaped se) (SeqAt.canLay_of_shaped sd) (room_in_shaped sd hu) ⟨.bl _, H, I, rfl, q⟩
  · obtain ⟨bs, r2⟩ := Dp.reads I (.tuple ds) y u he ry
    exact SeqAt.notIn_tuple_reads r2 r1 (SeqAt.canLay_of_shaped se) (SeqAt.canLay_of_shaped sd) (room_in_shaped sd hu) ⟨.bl _, H, I, rfl, q⟩
def inD : Op2 := fun d e => match e with
  | .list ds | .tuple ds => if pl 60 d && pl 60 e then some (.bool (ds.any fun z => PyData.eqv z d)) else none
  | _ => none
def notInD : Op2 := fun d e => match e with
  | .list ds | .tuple ds => if pl 60 d && pl 60 e then some (.bool (!ds.any fun z => PyData.eqv z d)) else none
  | _ => none
theorem pl_tl {ds : List D} (h : pl 60 (.tuple ds) = true) : pl 60 (.list ds) = true := h
theorem o_in {K : PySem.W.Frag} {mg : Str → Option Value} : OpC K mg (rInS K) inD := fun G H x y d e u Q g hx hy hf k => by
  unfold inD at hf
  split at hf
  · split at hf
    · rename_i hp
      cases hf
      rw [Bool.and_eq_true] at hp
      exact ⟨d, _, (hx.up g).dp hp.1, .inl ((hy.up g).dp hp.2), pl_shaped hp.1, pl_shaped hp.2, k _ fun _ => .bl _⟩
    · cases hf
  · split at hf
    · rename_i hp
      cases hf
      rw [Bool.and_eq_true] at hp
      exact ⟨d, _, (hx.up g).dp hp.1, .inr ((hy.up g).dp hp.2), pl_shaped hp.1, pl_shaped (pl_tl hp.2), k _ fun _ => .bl _⟩
    · cases hf
  · cases hf
theorem o_notIn {K : PySem.W.Frag} {mg : Str → Option Value} : OpC K mg (rNotInS K) notInD := fun G H x y d e u Q g hx hy hf k => by
  unfold notInD at hf
  split at hf
  · split at hf
    · rename_i hp
      cases hf
      rw [Bool.and_eq_true] at hp
      exact ⟨d, _, (hx.up g).dp hp.1, .inl ((hy.up g).dp hp.2), pl_shaped hp.1, pl_shaped hp.2, k _ fun _ => .bl _⟩
    · cases hf
  · split at hf
    · rename_i hp
      cases hf
      rw [Bool.and_eq_true] at hp
      exact ⟨d, _, (hx.up g).dp hp.1, .inr ((hy.up g).dp hp.2), pl_shaped hp.1, pl_shaped (pl_tl hp.2), k _ fun _ => .bl _⟩
    · cases hf
  · cases hf
theorem pd_in (A : Agr X C) (ha : PE X a (tE C m q ka fa)) (hb : PE X b (tE C m q' kb fb)) (hm : behindInMarks .In b = false := by with_unfolding_all rfl) (hk : ka = .fz ∨ q' = true := by first | exact .inl rfl | exact .inr rfl) : PE X (.Compare a [.In] [b] pos) (tE C m (q && q') .fz (bin inD fa fb)) := pd_cmp o_in (by rw [← A.K]; exact op_inS A.hu) ha hb hm hk
theorem td_in (A : Agr X C) (ha : PE X a (tE C m q ka fa)) (hb : PE X b (tE C m q' kb fb)) (hm : behindInMarks .In b = false := by with_unfolding_all rfl) (hk : ka = .fz ∨ q' = true := by first | exact .inl rfl | exact .inr rfl) : PT X (.Compare a [.In] [b] pos) (tT C m (q && q') (testB (bin inD fa fb))) := td_cmp o_in (by rw [← A.K]; exact op_inS A.hu) ha hb hm hk
theorem pd_notIn (A : Agr X C) (ha : PE X a (tE C m q ka fa)) (hb : PE X b (tE C m q' kb fb)) (hm : behindInMarks .NotIn b = false := by with_unfolding_all rfl) (hk : ka = .fz ∨ q' = true := by first | exact .inl rfl | exact .inr rfl) : PE X (.Compare a [.NotIn] [b] pos) (tE C m (q && q') .fz (bin notInD fa fb)) := pd_cmp o_notIn (by rw [← A.K]; exact op_notInS A.hu) ha hb hm hk
theorem td_notIn (A : Agr X C) (ha : PE X a (tE C m q ka fa)) (hb : PE X b (tE C m q' kb fb)) (hm : behindInMarks .NotIn b = false := by with_unfolding_all rfl) (hk : ka = .fz ∨ q' = true := by first | exact .inl rfl | exact .inr rfl) : PT X (.Compare a [.NotIn] [b] pos) (tT C m (q && q') (testB (bin notInD fa fb))) := td_cmp o_notIn (by rw [← A.K]; exact op_notInS A.hu) ha hb hm hk
end
end Dn

/-! DnH -/
set_option Elab.async false
set_option linter.all false
set_option maxRecDepth 100000
/-! Dn, part H: statements. -/
namespace Dn
open PySem PySem.Spec PyProof.Rows L2
variable [LamTab]
/-! ### modes change -/
def forget (is : List Nat) (ρ : Env) : Env := is.foldl (fun r i => r.set i none) ρ
/-- from the modes m to the modes m', the slots is forgotten -/
def conv (is : List Nat) : Nat → List Mode → List Mode → Bool
  | _, [], [] => true
  | j, a :: m, b :: m' => (decide (b = a) || (decide (j ∈ is)) || (match a, b with
    | .ow _, .fz => true
    | _, _ => false)) && conv is (j + 1) m m'
  | _, _, _ => false
theorem forget_len (is : List Nat) (ρ : Env) : (forget is ρ).length = ρ.length := by
  unfold forget
  induction is generalizing ρ with
  | nil => rfl
  | cons i is ih => rw [List.foldl_cons, ih, List.length_set]
theorem forget_some {is : List Nat} {ρ : Env} {j : Nat} {d : D} (h : (forget is ρ)[j]? = some (some d)) : ρ[j]? = some (some d) ∧ j ∉ is := by
  unfold forget at h
  induction is generalizing ρ with
  | nil => exact ⟨h, List.not_mem_nil⟩
  | cons i is ih =>
    rw [List.foldl_cons] at h
    obtain ⟨h1, h2⟩ := ih h
    by_cases e : i = j
    · subst e
      rw [List.getElem?_set] at h1
      simp at h1
    · rw [List.getElem?_set_ne e] at h1
      exact ⟨h1, fun z => (List.mem_cons.mp z).elim (fun y => e y.symm) h2⟩
theorem conv_at {is : List Nat} : ∀ {m m' : List Mode} {j i : Nat}, conv is j m m' = true → (m'[i]? = m[i]?) ∨ (j + i ∈ is) ∨ (∃ n, m[i]? = some (.ow n) ∧ m'[i]? = some .fz)
  | [], [], j, i, _ => .inl rfl
  | a :: m, b :: m', j, i, h => by
    simp only [conv, Bool.and_eq_true, Bool.or_eq_true, decide_eq_true_eq] at h
    obtain ⟨h1, h2⟩ := h
    cases i with
    | zero =>
      rcases h1 with (h1 | h1) | h1
      · exact .inl (by simp [h1])
      · exact .inr (.inl (by simpa using h1))
      · split at h1
        · exact .inr (.inr ⟨_, rfl, rfl⟩)
        · cases h1
    | succ i =>
      rcases conv_at (i := i) h2 with q | q | q
      · exact .inl (by simpa using q)
      · exact .inr (.inl (by rw [show j + (i + 1) = j + 1 + i by omega]; exact q))
      · exact .inr (.inr (by simpa using q))
  | [], _ :: _, _, _, h => by simp [conv] at h
  | _ :: _, [], _, _, h => by simp [conv] at h
section
variable {C : Cd} {m m' : List Mode} {ρ : Env} {σ : L2.St} {fp : Fp} {H H' : Hp}
open Classical in
/-- the footprints that the modes let stand -/
noncomputable def cut (m : List Mode) (fp : Fp) : Fp := fun i a => isOw m i ∧ fp i a
theorem Rep.conv {is : List Nat} (R : Rep C m ρ σ H fp) (h : Dn.conv is 0 m m' = true) : Rep C m' (forget is ρ) σ H (cut m' fp) := by
  have g : grow (hide (own C.M fp) H) (hide (own C.M (cut m' fp)) H) := hide_less fun a q => q.elim .inl fun ⟨i, _, z⟩ => .inr ⟨i, z⟩
  refine ⟨fun i d e => ?_, (forget_len is ρ).trans R.len, fun i j a q z => R.dis i j a q.2 z.2, fun i n a q => n q.1, fun i a q => R.msk i a q.2, fun a q => R.lv a (q.elim .inl fun ⟨i, _, z⟩ => .inr ⟨i, z⟩), R.io, R.px.up g, R.tab⟩
  obtain ⟨e1, e2⟩ := forget_some e
  obtain ⟨v, h1, h2⟩ := R.slot i d e1
  refine ⟨v, h1, ?_⟩
  rcases conv_at (i := i) h with q | q | ⟨n, q1, q2⟩
  · rw [q]
    cases hm : m[i]? with
    | none => rw [hm] at h2; exact h2.elim
    | some md =>
      rw [hm] at h2
      cases md with
      | no => exact h2.elim
      | fz => exact Is.up g h2
      | ow n =>
        have ex : cut m' fp i = fp i := funext fun a => propext ⟨fun z => z.2, fun z => ⟨⟨n, q.trans hm⟩, z⟩⟩
        rw [ex]
        exact Ow.keep g h2 fun a o _ z _ => z
  · exact absurd (by simpa using q) e2
  · rw [q1] at h2
    rw [q2]
    have no : ∀ a, ¬ cut m' fp i a := fun a ⟨⟨k, z⟩, _⟩ => by rw [q2] at z; cases z
    refine Ow.is g h2 fun a o q z _ => hide_of (fun y => ?_) z
    rcases y with y | ⟨j, y1, y2⟩
    · exact R.msk i a q y
    · have := R.dis i j a q y2
      subst this
      exact no a ⟨y1, y2⟩
theorem Evo.cut : Evo fp H (cut m' fp) H := ⟨fun _ _ e _ _ => e, fun i a q => .inl ⟨i, q.2⟩, fun _ e => e, .refl⟩
theorem Res.earlier {k : Kd} {v : V} {d : D} {F : Ad} {fp0 fp1 : Fp} {H0 H1 : Hp} (r : Res C k H1 H fp v d F) (e : Evo fp0 H0 fp1 H1) : Res C k H0 H fp v d F := by
  match k, r with
  | .fz, r => exact r
  | .new n, r => exact ⟨r.1, r.2.1, fun a z => e.none (r.2.2 a z)⟩
  | .bor n, r => exact r
theorem SK.later {mn mb mc : List Mode} {D : Ends} {fp1 : Fp} {H1 : Hp} {f : Flow} (h : SK C mn mb mc D fp H f ρ) (e : Evo fp H fp1 H1) : SK C mn mb mc D fp1 H1 f ρ := by
  cases f with
  | next => exact fun σ' H' fp' R e' => h σ' H' fp' R (e.trans e')
  | brk => exact fun σ' H' fp' R e' => h σ' H' fp' R (e.trans e')
  | cont => exact fun σ' H' fp' R e' => h σ' H' fp' R (e.trans e')
  | rt d => exact fun v m' σ' H' fp' F R i e' r => h v m' σ' H' fp' F R i (e.trans e') (r.earlier e)
theorem SK.pst {mn mb mc : List Mode} {D : Ends} {fp1 : Fp} {H1 : Hp} {o : Out Flow} (h : Pst C fp H (SK C mn mb mc D fp H) o) (e : Evo fp H fp1 H1) : Pst C fp1 H1 (SK C mn mb mc D fp1 H1) o := (h.later e).imp fun _ _ k => k.later e
end
section
variable {X : Cx} {C : Cd} {m m' mn mb mc : List Mode} {st : Stmt} {sts : List Stmt} {s t : S} {e : Expr} {f : M D} {q : Bool} {k : Kd} {pos : Pos}
/-- ahead of a block: modes change, slots are forgotten -/
theorem ss_conv (is : List Nat) (h : PSs X sts (tS C m' mn mb mc s)) (hc : conv is 0 m m' = true := by rfl) : PSs X sts (tS C m mn mb mc (fgt is s)) := PSs.imp h fun D σ H ⟨ρ, fp, R, p⟩ =>
  ⟨forget is ρ, cut m' fp, R.conv hc, SK.pst p Evo.cut⟩
theorem ss_nil (is : List Nat) (hc : conv is 0 m mn = true := by rfl) : PSs X [] (tS C m mn mb mc (fgt is nx)) := PSs.imp pss_nil fun D σ H ⟨ρ, fp, R, p⟩ => p σ H _ (R.conv hc) Evo.cut
theorem ss_cons (h1 : PS X st (tS C m m' mb mc s)) (h2 : PSs X sts (tS C m' mn mb mc t)) : PSs X (st :: sts) (tS C m mn mb mc (sq s t)) := PSs.imp (pss_cons h1 h2) fun D σ H ⟨ρ, fp, R, p⟩ => by
  refine ⟨ρ, fp, R, p.bnd.imp fun f ρ1 p1 => ?_⟩
  cases f with
  | next => exact fun σ1 H1 fp1 R1 e1 => ⟨ρ1, fp1, R1, SK.pst p1 e1⟩
  | brk => exact p1
  | cont => exact p1
  | rt d => exact p1
def brkS : S := ret .brk
def cntS : S := ret .cont
theorem sd_pass : PS X (.Pass pos) (tS C m m mb mc nx) := PS.imp ps_pass fun D σ H ⟨ρ, fp, R, p⟩ => p σ H fp R .refl
theorem sd_break (is : List Nat) (hc : conv is 0 m mb = true := by rfl) : PS X (.Break pos) (tS C m mn mb mc (fgt is brkS)) := PS.imp ps_break fun D σ H ⟨ρ, fp, R, p⟩ => p σ H _ (R.conv hc) Evo.cut
theorem sd_cont (is : List Nat) (hc : conv is 0 m mc = true := by rfl) : PS X (.Continue pos) (tS C m mn mb mc (fgt is cntS)) := PS.imp ps_continue fun D σ H ⟨ρ, fp, R, p⟩ => p σ H _ (R.conv hc) Evo.cut
/-- behind a return nothing comes -/
theorem sd_expr (he : PE X e (tE C m q k f)) (hs : swapsWith e none pos.line X.env = pure false := by rfl) : PS X (.Expr e pos) (tS C m m mb mc (drp f)) := PS.imp (ps_expr he hs) fun D σ H ⟨ρ, fp, R, p⟩ =>
  ⟨ρ, fp, R, p.bnd.imp fun d ρ1 p1 v H1 fp1 F R1 e1 q1 r1 => p1 σ H1 fp1 R1.rep e1⟩
theorem sd_ret (he : PE X e (tE C m q C.rk f)) (hio : ∀ i, i ∈ C.ro → m[i]? = some (.ow (C.dp i)) := by intro _ h; first | (cases h; done) | (cases h with | head => rfl | tail _ h => cases h)) : PS X (.Return (some e) pos) (tS C m mn mb mc (rtn f)) := PS.imp (ps_ret he) fun D σ H ⟨ρ, fp, R, p⟩ =>
  ⟨ρ, fp, R, p.bnd.imp fun d ρ1 p1 v H1 fp1 F R1 e1 q1 r1 => p1 v m σ H1 fp1 F R1 hio e1 r1⟩
theorem sd_retN (hk : C.rk = .fz := by rfl) (hio : ∀ i, i ∈ C.ro → m[i]? = some (.ow (C.dp i)) := by intro _ h; first | (cases h; done) | (cases h with | head => rfl | tail _ h => cases h)) : PS X (.Return none pos) (tS C m mn mb mc (rtn (lit .none))) := PS.imp ps_retN fun D σ H ⟨ρ, fp, R, p⟩ => by
  have p : ∀ v m' σ' H' fp' F, RepK C C.rk F m' ρ σ' H' fp' → (∀ i, i ∈ C.ro → m'[i]? = some (.ow (C.dp i))) → Evo fp H fp' H' → Res C C.rk H H' fp' v .none F → D.rt v H' := p
  rw [hk] at p
  exact p .non m σ H fp (fun _ => False) R hio .refl ⟨.non, fun _ z => z⟩
theorem sd_if {c : Expr} {a b : List Stmt} {g : M Bool} (hc : PT X c (tT C m q g)) (ha : PSs X a (tS C m mn mb mc s)) (hb : PSs X b (tS C m mn mb mc t)) : PS X (.If c a b pos) (tS C m mn mb mc (ifS g s t)) := PS.imp (ps_if hc ha hb) fun D σ H ⟨ρ, fp, R, p⟩ => by
  refine ⟨ρ, fp, R, p.bnd.imp fun x ρ1 p1 H1 fp1 R1 e1 q1 => ?_⟩
  cases x with
  | true =>
    rw [if_pos rfl] at p1 ⊢
    exact ⟨ρ1, fp1, R1, SK.pst p1 e1⟩
  | false =>
    rw [if_neg Bool.false_ne_true] at p1 ⊢
    exact ⟨ρ1, fp1, R1, SK.pst p1 e1⟩
/-- code that is not come to -/
theorem ss_never : PSs X sts (tS C m mn mb mc stk) := PSs.imp pss_never fun D σ H ⟨ρ, fp, R, p⟩ => p
theorem sd_never : PS X st (tS C m mn mb mc stk) := PS.imp ps_never fun D σ H ⟨ρ, fp, R, p⟩ => p
theorem sd_doc {x j p2} : PS X (.Expr (.Constant (.str x) j p2) pos) (tS C m m mb mc nx) := PS.imp ps_doc fun D σ H ⟨ρ, fp, R, p⟩ => p σ H fp R .refl
end
/-! ### stores to names -/
section
variable {C : Cd} {m : List Mode} {ρ : Env} {σ : L2.St} {fp : Fp} {H : Hp}
open Classical in
/-- slot i's footprint is F -/
noncomputable def put (fp : Fp) (i : Nat) (F : Ad) : Fp := fun j => if j = i then F else fp j
theorem put_same {i : Nat} {F : Ad} : put fp i F i = F := if_pos rfl
theorem put_ne {i j : Nat} {F : Ad} (h : j ≠ i) : put fp i F j = fp j := if_neg h
theorem put_or {i j : Nat} {F : Ad} {a : Addr} (h : put fp i F j a) : F a ∨ fp j a := by
  by_cases e : j = i
  · subst e; rw [put_same] at h; exact .inl h
  · rw [put_ne e] at h; exact .inr h
/-- slot i is stored: frozen (F empty), or an owned tree (F its own) -/
theorem Rep.setI {i : Nat} {md : Mode} {v : V} {d : D} {F : Ad} (R : Rep (C.plus F) m ρ σ H fp) (hi : i ∉ C.io) (hl : i < m.length) (hF : ∀ a, F a → ¬ C.M a) (hmd : (md = .fz ∧ (∀ a, ¬ F a)) ∨ ∃ n, md = .ow n)
    (h : SlotOk C.K C.mg (hide (own C.M (put fp i F)) H) H (some md) v d F) : Rep C (m.set i md) (ρ.set i (some d)) (σ.set i (some v)) H (put fp i F) := by
  have g : grow (hide (own (C.plus F).M fp) H) (hide (own C.M (put fp i F)) H) := hide_less fun a q => by
    rcases q with q | ⟨j, q⟩
    · exact .inl (.inl q)
    · rcases put_or q with q | q
      · exact .inl (.inr q)
      · exact .inr ⟨j, q⟩
  have ms : ∀ j a, fp j a → ¬ C.M a := fun j a q z => R.msk j a q (.inl z)
  have mf : ∀ j a, fp j a → ¬ F a := fun j a q z => R.msk j a q (.inr z)
  refine ⟨fun j d' e => ?_, ?_, fun j1 j2 a q z => ?_, fun j n a q => ?_, fun j a q => ?_, fun a q => ?_, fun j hj => ?_, ?_, ?_⟩
  · by_cases ej : j = i
    · subst ej
      have hlt : j < ρ.length := by
        refine Classical.byContradiction fun z => ?_
        rw [List.getElem?_eq_none (by rw [List.length_set]; omega)] at e
        cases e
      rw [List.getElem?_set_self hlt] at e
      cases e
      refine ⟨v, List.getElem?_set_self (by rw [← R.len]; exact hlt), ?_⟩
      rw [put_same, List.getElem?_set_self hl]
      exact h
    · rw [List.getElem?_set_ne (Ne.symm ej)] at e
      obtain ⟨w, h1, h2⟩ := R.slot j d' e
      refine ⟨w, by rw [List.getElem?_set_ne (Ne.symm ej)]; exact h1, ?_⟩
      rw [List.getElem?_set_ne (Ne.symm ej), put_ne ej]
      exact h2.keep g fun a o _ z _ => z
  · rw [List.length_set, List.length_set]; exact R.len
  · by_cases e1 : j1 = i <;> by_cases e2 : j2 = i
    · rw [e1, e2]
    · subst e1
      rw [put_same] at q
      rw [put_ne e2] at z
      exact absurd q (mf j2 a z)
    · subst e2
      rw [put_same] at z
      rw [put_ne e1] at q
      exact absurd z (mf j1 a q)
    · rw [put_ne e1] at q
      rw [put_ne e2] at z
      exact R.dis j1 j2 a q z
  · by_cases ej : j = i
    · subst ej
      rw [put_same] at q
      rcases hmd with ⟨_, nf⟩ | ⟨k, rfl⟩
      · exact nf a q
      · exact n ⟨k, List.getElem?_set_self hl⟩
    · rw [put_ne ej] at q
      refine R.non j (fun ⟨k, z⟩ => n ⟨k, ?_⟩) a q
      rw [List.getElem?_set_ne (Ne.symm ej)]
      exact z
  · rcases put_or q with z | z
    · exact hF a z
    · exact ms j a z
  · rcases q with q | ⟨j, q⟩
    · exact R.lv a (.inl (.inl q))
    · rcases put_or q with z | z
      · exact R.lv a (.inl (.inr z))
      · exact R.lv a (.inr ⟨j, z⟩)
  · rw [List.getElem?_set_ne (fun e => hi (by rw [e]; exact hj))]
    exact R.io j hj
  · exact R.px.up g
  · exact R.tab
theorem Evo.put {i : Nat} {F : Ad} {fp0 : Fp} {H0 : Hp} (e : Evo fp0 H0 fp H) (n : ∀ a, F a → H0 a = Option.none) : Evo fp0 H0 (put fp i F) H := ⟨e.keep, fun j a q => (put_or q).elim (fun z => .inr (n a z)) fun z => e.new j a z, e.there, e.tb⟩
/-- the mode of a slot behind a store of a value of this kind -/
def kMode : Kd → Mode
  | .fz => .fz
  | .new n => .ow n
  | .bor _ => .no
/-- what may be stored -/
def kSet : Kd → Bool
  | .bor _ => false
  | _ => true
theorem Rep.plus0 {F : Ad} (R : Rep C m ρ σ H fp) (n : ∀ a, ¬ F a) : Rep (C.plus F) m ρ σ H fp := by
  have e : C.plus F = C := by
    have : (fun a => C.M a ∨ F a) = C.M := funext fun a => propext ⟨fun q => q.elim (fun z => z) fun z => absurd z (n a), .inl⟩
    unfold Cd.plus
    rw [this]
  rw [e]
  exact R
/-- a result is stored in slot i -/
theorem Rep.setR {i : Nat} {k : Kd} {v : V} {d : D} {F : Ad} {fp0 : Fp} {H0 : Hp} (hk : kSet k = true) (R : RepK C k F m ρ σ H fp) (e : Evo fp0 H0 fp H) (r : Res C k H0 H fp v d F) (hi : i ∉ C.io) (hl : i < m.length) :
    Rep C (m.set i (kMode k)) (ρ.set i (some d)) (σ.set i (some v)) H (put fp i F) ∧ Evo fp0 H0 (put fp i F) H := by
  match k, hk, R, r with
  | .fz, _, R, r =>
    refine ⟨Rep.setI (md := .fz) (Rep.plus0 R r.2) hi hl (fun a z => absurd z (r.2 a)) (.inl ⟨rfl, r.2⟩) (Is.up (hide_less fun a q => ?_) r.1), e.put fun a z => absurd z (r.2 a)⟩
    rcases q with q | ⟨j, q⟩
    · exact .inl q
    · rcases put_or q with z | z
      · exact absurd z (r.2 a)
      · exact .inr ⟨j, z⟩
  | .new n, _, R, ⟨r1, r2, r3⟩ =>
    refine ⟨Rep.setI (md := .ow n) R hi hl (fun a z y => r2 a z (.inl y)) (.inr ⟨n, rfl⟩) (Ow.keep (hide_less fun a q => ?_) r1 fun a o _ z _ => z), e.put r3⟩
    rcases q with q | ⟨j, q⟩
    · exact .inl (.inl q)
    · rcases put_or q with z | z
      · exact .inr z
      · exact .inl (.inr ⟨j, z⟩)
end
end Dn

/-! DnI -/
set_option Elab.async false
set_option linter.all false
set_option maxRecDepth 100000
/-! Dn, part I: stores to names. -/
namespace Dn
open PySem PySem.Spec PyProof.Rows L2
variable [LamTab]
/-! ### values of several kinds -/
/-- one result among several -/
def KV (K : PySem.W.Frag) (mg : Str → Option Value) (G H : Hp) (k : Kd) (v : V) (d : D) (F : Ad) : Prop := match k with
  | .fz => Is K mg G v d ∧ ∀ a, ¬ F a
  | .new n => Ow K mg G H n v d F
  | .bor _ => False
def AllK (K : PySem.W.Frag) (mg : Str → Option Value) (G H : Hp) : List Kd → List V → List D → Ad → Prop
  | [], [], [], F => ∀ a, ¬ F a
  | k :: ks, v :: vs, d :: ds, F => ∃ F1 F2, KV K mg G H k v d F1 ∧ AllK K mg G H ks vs ds F2 ∧ (∀ a, F1 a → F2 a → False) ∧ ∀ a, F a ↔ F1 a ∨ F2 a
  | _, _, _, _ => False
section
variable {K : PySem.W.Frag} {mg : Str → Option Value} {G G' H H' : Hp}
theorem KV.keep {k : Kd} {v : V} {d : D} {F : Ad} (h : KV K mg G H k v d F) (g : grow G G') (e : ∀ a o, F a → H a = some o → NT o → H' a = some o) : KV K mg G' H' k v d F := by
  match k, h with
  | .fz, h => exact ⟨h.1.up g, h.2⟩
  | .new n, h => exact Ow.keep g h e
theorem KV.live {k : Kd} {v : V} {d : D} {F : Ad} (h : KV K mg G H k v d F) : ∀ a, F a → H a ≠ none := by
  match k, h with
  | .fz, h => exact fun a q => absurd q (h.2 a)
  | .new n, h => exact Ow.live h
theorem AllK.keep (g : grow G G') : ∀ {ks : List Kd} {vs : List V} {ds : List D} {F : Ad}, AllK K mg G H ks vs ds F → (∀ a o, F a → H a = some o → NT o → H' a = some o) → AllK K mg G' H' ks vs ds F
  | [], [], [], F, h, _ => h
  | k :: ks, v :: vs, d :: ds, F, ⟨F1, F2, h1, h2, h3, h4⟩, e => ⟨F1, F2, h1.keep g fun a o q => e a o ((h4 a).mpr (.inl q)), AllK.keep g h2 fun a o q => e a o ((h4 a).mpr (.inr q)), h3, h4⟩
theorem AllK.lens : ∀ {ks : List Kd} {vs : List V} {ds : List D} {F : Ad}, AllK K mg G H ks vs ds F → vs.length = ks.length ∧ ds.length = ks.length
  | [], [], [], F, h => ⟨rfl, rfl⟩
  | k :: ks, v :: vs, d :: ds, F, ⟨F1, F2, h1, h2, h3, h4⟩ => by
    obtain ⟨a, b⟩ := AllK.lens h2
    exact ⟨congrArg (· + 1) a, congrArg (· + 1) b⟩
end
/-- several values -/
def tAK (C : Cd) (m : List Mode) (q : Bool) (ks : List Kd) (f : M (List D)) : TA := fun σ H Q => ∃ ρ fp, Rep C m ρ σ H fp ∧
  Pst C fp H (fun ds ρ' => ∀ vs H' fp' F, Rep (C.plus F) m ρ' σ H' fp' → Evo fp H fp' H' → Qt q ρ ρ' fp fp' H H' → AllK C.K C.mg (hide (own (C.plus F).M fp') H') H' ks vs ds F →
    (∀ a, F a → ¬ own C.M fp' a ∧ H a = none) → Q vs H') (f ρ)
section
variable {C : Cd} {m : List Mode} {ρ : Env} {σ : L2.St} {fp : Fp} {H : Hp}
theorem Errs.plus {F : Ad} {c : Str} {d : D} (h : Errs C c d ρ fp H) : Errs (C.plus F) c d ρ fp H := fun m' σ' H' fp' Cc fld dd v a b r e no n x i =>
  h m' σ' H' fp' Cc fld dd v a b r.drop e (fun z => no (z.elim (fun y => .inl (.inl y)) .inr)) n x (i.up (hide_less fun a z => z.elim (fun y => .inl (.inl y)) .inr))
theorem Pst.plus {α : Type} {F : Ad} {k : α → Env → Prop} {o : Out α} (h : Pst C fp H k o) : Pst (C.plus F) fp H k o := by
  cases o with
  | ok a ρ' => exact h
  | err c d ρ' => exact Errs.plus h
  | stuck => exact h
theorem RepK.plus {k : Kd} {F : Ad} {H0 : Hp} {v : V} {d : D} (hk : kSet k = true) (R : RepK C k F m ρ σ H fp) (r : Res C k H0 H fp v d F) : Rep (C.plus F) m ρ σ H fp := by
  match k, hk, R, r with
  | .fz, _, R, r => exact Rep.plus0 R r.2
  | .new n, _, R, _ => exact R
theorem own_plus {F : Ad} : own (C.plus F).M fp = fun a => own C.M fp a ∨ F a := funext fun a => propext ⟨fun q => q.elim (fun z => z.elim (fun y => .inl (.inl y)) .inr) fun z => .inl (.inr z), fun q => q.elim (fun z => z.elim (fun y => .inl (.inl y)) .inr) fun z => .inl (.inr z)⟩
theorem Res.kv {k : Kd} {F : Ad} {H0 : Hp} {v : V} {d : D} (hk : kSet k = true) (r : Res C k H0 H fp v d F) : KV C.K C.mg (hide (own (C.plus F).M fp) H) H k v d F := by
  rw [own_plus]
  match k, hk, r with
  | .fz, _, r => exact ⟨r.1.up (hide_less fun a z => z.elim (fun y => y) fun y => absurd y (r.2 a)), r.2⟩
  | .new n, _, r => exact r.1
theorem Res.fr {k : Kd} {F : Ad} {H0 : Hp} {v : V} {d : D} (hk : kSet k = true) (r : Res C k H0 H fp v d F) : ∀ a, F a → ¬ own C.M fp a ∧ H0 a = none := by
  match k, hk, r with
  | .fz, _, r => exact fun a q => absurd q (r.2 a)
  | .new n, _, r => exact fun a q => ⟨r.2.1 a q, r.2.2 a q⟩
theorem plus_plus {F1 F2 F : Ad} (h : ∀ a, F a ↔ F1 a ∨ F2 a) : (C.plus F2).plus F1 = C.plus F := by
  unfold Cd.plus
  congr 1
  funext a
  exact propext ⟨fun q => q.elim (fun z => z.elim .inl fun y => .inr ((h a).mpr (.inr y))) fun z => .inr ((h a).mpr (.inl z)), fun q => q.elim (fun z => .inl (.inl z)) fun z => ((h a).mp z).elim .inr fun y => .inl (.inr y)⟩
theorem plus_plus' {F1 F2 F : Ad} (h : ∀ a, F a ↔ F1 a ∨ F2 a) : (C.plus F1).plus F2 = C.plus F := plus_plus fun a => (h a).trans or_comm
end
section
variable {X : Cx} {C : Cd}
theorem Agr.plus (A : Agr X C) {F : Ad} : Agr X (C.plus F) := ⟨A.K, A.mg, A.nd, A.tk, A.hu, A.gd⟩
variable {m : List Mode} {q q' : Bool} {k : Kd} {ks : List Kd} {a : Expr} {es : List Expr} {f : M D} {g : M (List D)} {pos : Pos}
theorem pk_nil : PA X [] (tAK C m true [] nilA) := PA.imp pa_nil fun σ H Q ⟨ρ, fp, R, p⟩ => p [] H fp (fun _ => False) (R.plus0 fun _ z => z) .refl .refl (fun _ z => z) fun _ z => z.elim
theorem PA.all {α : Sort _} {es : List Expr} {t : α → TA} (h : ∀ x, PA X es (t x)) : PA X es (fun σ H Q => ∃ x, t x σ H Q) := ⟨fun pos pins s σ H Q I ⟨x, q⟩ => (h x).run pos pins s σ H Q I q⟩
theorem PE.all {α : Sort _} {e : Expr} {t : α → TE} (h : ∀ x, PE X e (t x)) : PE X e (fun σ H Q => ∃ x, t x σ H Q) := ⟨fun pins s σ H Q I ⟨x, q⟩ => (h x).run pins s σ H Q I q⟩
theorem PT.all {α : Sort _} {e : Expr} {t : α → TT} (h : ∀ x, PT X e (t x)) : PT X e (fun σ H Q => ∃ x, t x σ H Q) := ⟨fun pins s σ H Q I ⟨x, q⟩ => (h x).run pins s σ H Q I q⟩
theorem pk_cons (ha : PE X a (tE C m q k f)) (hr : ∀ F, PA X es (tAK (C.plus F) m q' ks g)) (hk : kSet k = true := by rfl) (hs : starEach (a :: es) X.env = (false, eval a X.env) :: starEach es X.env := by rfl) : PA X (a :: es) (tAK C m (q && q') (k :: ks) (consA f g)) :=
  PA.imp (pa_cons ha (PA.all hr) hs) fun σ H Q ⟨ρ, fp, R, p⟩ => by
    refine ⟨ρ, fp, R, p.bnd.imp fun x ρ1 p1 v1 H1 fp1 F1 R1 e1 q1 r1 => ⟨F1, ρ1, fp1, R1.plus hk r1, (p1.later e1).bnd.plus.imp fun ds ρ2 p2 vs H2 fp2 F2 R2 e2 q2 al fr2 => ?_⟩⟩
    have un : ∀ a, (fun a => F1 a ∨ F2 a) a ↔ F1 a ∨ F2 a := fun a => Iff.rfl
    have ee := plus_plus' (C := C) un
    rw [ee] at R2 al
    refine p2 (v1 :: vs) H2 fp2 (fun a => F1 a ∨ F2 a) R2 (e1.trans e2) (q1.trans q2) ⟨F1, F2, ?_, al, fun a z y => (fr2 a y).1 (.inl (.inr z)), un⟩ fun a z => ?_
    · have RR := R1.plus hk r1
      have gz := e2.fz RR.ml
      have gx : grow (hide (own (C.plus F1).M fp1) H1) (hide (own (C.plus fun a => F1 a ∨ F2 a).M fp2) H2) := fun b o e nt => by
        obtain ⟨n1, n2⟩ := hide_at (gz b o e nt)
        obtain ⟨l1, l2⟩ := hide_at e
        refine hide_of (fun z => ?_) n2
        rcases z with (z | z | z) | z
        · exact n1 (.inl (.inl z))
        · exact n1 (.inl (.inr z))
        · rw [(fr2 b z).2] at l2; cases l2
        · exact n1 (.inr z)
      refine (r1.kv hk).keep gx fun a o z y nt => e2.keep a o y nt fun i w => ?_
      exact RR.msk i a w (.inr z)
    · rcases z with z | z
      · refine ⟨fun y => ?_, (r1.fr hk a z).2⟩
        rcases y with y | ⟨i, y⟩
        · exact (r1.fr hk a z).1 (.inl y)
        · exact R2.msk i a y (.inr (.inl z))
      · exact ⟨fun y => (fr2 a z).1 (y.elim (fun w => .inl (.inl w)) .inr), e1.none (fr2 a z).2⟩
end
/-! ### stores of several -/
def setM : List Mode → List Nat → List Kd → List Mode
  | m, i :: is, k :: ks => setM (m.set i (kMode k)) is ks
  | m, _, _ => m
def setE : Env → List Nat → List D → Env
  | ρ, i :: is, d :: ds => setE (ρ.set i (some d)) is ds
  | ρ, _, _ => ρ
def setV : L2.St → List Nat → List V → L2.St
  | σ, i :: is, v :: vs => setV (σ.set i (some v)) is vs
  | σ, _, _ => σ
theorem setM_len : ∀ {m : List Mode} {is : List Nat} {ks : List Kd}, (setM m is ks).length = m.length
  | _, [], _ => rfl
  | _, _ :: _, [] => rfl
  | m, i :: is, k :: ks => by unfold setM; rw [setM_len, List.length_set]
/-- the names' slots: none of them given back, all there -/
def okSl (io : List Nat) (m : List Mode) (is : List Nat) : Bool := is.all fun i => !io.contains i && decide (i < m.length)
section
variable {C : Cd} {fp0 : Fp} {H0 H : Hp}
theorem Rep.setL : ∀ {is : List Nat} {ks : List Kd} {vs : List V} {ds : List D} {F : Ad} {m : List Mode} {ρ : Env} {σ : L2.St} {fp : Fp}, is.length = ks.length → (∀ i ∈ is, i ∉ C.io ∧ i < m.length) → Rep (C.plus F) m ρ σ H fp → Evo fp0 H0 fp H →
    AllK C.K C.mg (hide (own (C.plus F).M fp) H) H ks vs ds F → (∀ a, F a → ¬ own C.M fp a ∧ H0 a = none) → ∃ fp', Rep C (setM m is ks) (setE ρ is ds) (setV σ is vs) H fp' ∧ Evo fp0 H0 fp' H
  | [], [], [], [], F, m, ρ, σ, fp, _, _, R, e, h, _ => ⟨fp, R.drop, e⟩
  | i :: is, k :: ks, v :: vs, d :: ds, F, m, ρ, σ, fp, hl, hi, R, e, ⟨F1, F2, h1, h2, h3, h4⟩, fr => by
    have ee := plus_plus (C := C) h4
    rw [← ee] at R
    obtain ⟨a1, a2⟩ := hi i (List.mem_cons_self ..)
    have hk : kSet k = true := by
      match k, h1 with
      | .fz, _ => rfl
      | .new _, _ => rfl
    have out : ∀ a, F1 a → ¬ own (C.plus F2).M fp a := fun a z y => by
      rcases y with (y | y) | ⟨j, y⟩
      · exact (fr a ((h4 a).mpr (.inl z))).1 (.inl y)
      · exact h3 a z y
      · exact (fr a ((h4 a).mpr (.inl z))).1 (.inr ⟨j, y⟩)
    have res : Res (C.plus F2) k H0 H fp v d F1 := by
      have h1' : KV C.K C.mg (hide (fun a => own (C.plus F2).M fp a ∨ F1 a) H) H k v d F1 := by
        have x : own (C.plus F).M fp = fun a => own (C.plus F2).M fp a ∨ F1 a := by rw [← ee]; exact own_plus
        rw [← x]
        exact h1
      match k, hk, h1' with
      | .fz, _, h => exact ⟨h.1.up (hide_less fun a z => .inl z), h.2⟩
      | .new n, _, h => exact ⟨h, out, fun a z => (fr a ((h4 a).mpr (.inl z))).2⟩
    have rk : RepK (C.plus F2) k F1 m ρ σ H fp := by
      match k, hk with
      | .fz, _ => exact R.drop
      | .new n, _ => exact R
    obtain ⟨R1, e1⟩ := Rep.setR (C := C.plus F2) hk rk e res a1 a2
    have ofr : ∀ a, F2 a → ¬ own C.M (put fp i F1) a ∧ H0 a = none := fun a z => ⟨fun y => by
      rcases y with y | ⟨j, y⟩
      · exact (fr a ((h4 a).mpr (.inr z))).1 (.inl y)
      · rcases put_or y with w | w
        · exact h3 a w z
        · exact (fr a ((h4 a).mpr (.inr z))).1 (.inr ⟨j, w⟩), (fr a ((h4 a).mpr (.inr z))).2⟩
    have h2' : AllK C.K C.mg (hide (own (C.plus F2).M (put fp i F1)) H) H ks vs ds F2 := AllK.keep (hide_less fun a z => by
      rcases z with (z | z) | ⟨j, z⟩
      · exact .inl (.inl z)
      · exact .inl (.inr ((h4 a).mpr (.inr z)))
      · rcases put_or z with w | w
        · exact .inl (.inr ((h4 a).mpr (.inl w)))
        · exact .inr ⟨j, w⟩) h2 fun a o _ y _ => y
    exact Rep.setL (is := is) (by simpa using hl) (fun j hj => ⟨(hi j (List.mem_cons_of_mem _ hj)).1, by rw [List.length_set]; exact (hi j (List.mem_cons_of_mem _ hj)).2⟩) R1 e1 h2' ofr
  | [], _ :: _, _, _, _, _, _, _, _, hl, _, _, _, _, _ => by simp at hl
  | _ :: _, [], _, _, _, _, _, _, _, hl, _, _, _, _, _ => by simp at hl
theorem okSl_at {io : List Nat} {m : List Mode} {is : List Nat} (h : okSl io m is = true) : ∀ i ∈ is, i ∉ io ∧ i < m.length := fun i hi => by
  have q := List.all_eq_true.mp h i hi
  simp only [Bool.and_eq_true, Bool.not_eq_true', decide_eq_true_eq] at q
  refine ⟨fun z => ?_, q.2⟩
  rw [List.contains_iff_mem.mpr z] at q
  cases q.1
end
/-- names = values -/
def asgL (is : List Nat) (f : M (List D)) : S := bnd f fun ds ρ => .ok .next (setE ρ is ds)
section
variable {X : Cx} {C : Cd} {m mb mc : List Mode} {q : Bool} {k : Kd} {ks : List Kd} {e a b : Expr} {es : List Expr} {f : M D} {g : M (List D)} {pos px py pz pt : Pos} {x y z : Str} {i j l : Nat}
/-- name = value -/
theorem sd_set (A : Agr X C) (he : PE X e (tE C m q k f)) (hi : X.N[i]? = some x) (hk : kSet k = true := by rfl) (hx : Loc X.env.scope x := by first | exact Or.inl rfl | exact Or.inr rfl) (ho : okSl C.io m [i] = true := by rfl) (hs : swapsWith e (some (.Name x px)) pos.line X.env = pure false := by rfl)
    (hf : X.fn x = true ∨ X.env.scope.names.lookup x = some .local := by first | exact .inl rfl | exact .inr rfl) : PS X (.Assign [.Name x px] e pos) (tS C m (m.set i (kMode k)) mb mc (asg i f)) := PS.imp (ps_set A.nd hi hx he hs hf) fun D σ H ⟨ρ, fp, R, p⟩ =>
  ⟨ρ, fp, R, p.bnd.imp fun d ρ1 p1 v H1 fp1 F R1 e1 q1 r1 => by
    obtain ⟨a1, a2⟩ := okSl_at ho i (List.mem_cons_self ..)
    obtain ⟨R2, e2⟩ := Rep.setR hk R1 e1 r1 a1 a2
    exact p1 _ H1 _ R2 e2⟩
/-- a, b = x, y (stored from the values, no tuple) -/
theorem sd_par {kt k2 pt2} (A : Agr X C) (ha : PA X [a, b] (tAK C m q ks g)) (hi : X.N[i]? = some x) (hj : X.N[j]? = some y) (hl : ks.length = 2 := by rfl) (hij : i ≠ j := by decide)
    (hx : X.env.scope.names.lookup x = some .local := by rfl) (hy : X.env.scope.names.lookup y = some .local := by rfl) (ho : okSl C.io m [i, j] = true := by rfl)
    (hw : swappedStores [.Tuple [.Name x px, .Name y py] kt pt] (.Tuple [a, b] k2 pt2) X.env = pure (some [x, y]) := by rfl)
    (hs : swapsWithSole [.Tuple [.Name x px, .Name y py] kt pt] (.Tuple [a, b] k2 pt2) pos.line X.env = pure false := by rfl) (hc : X.calm = true := by rfl) :
    PS X (.Assign [.Tuple [.Name x px, .Name y py] kt pt] (.Tuple [a, b] k2 pt2) pos) (tS C m (setM m [i, j] ks) mb mc (asgL [i, j] g)) := PS.imp (ps_par hc A.nd hi hj hij hx hy ha hw hs) fun D σ H ⟨ρ, fp, R, p⟩ =>
  ⟨ρ, fp, R, p.bnd.imp fun ds ρ1 p1 vs H1 fp1 F R1 e1 q1 al fr => by
    obtain ⟨fp2, R2, e2⟩ := Rep.setL (is := [i, j]) hl.symm (okSl_at ho) R1 e1 al fr
    have l := al.lens.1
    rw [hl] at l
    match vs, l with
    | [v, w], _ => exact ⟨v, w, rfl, p1 _ H1 fp2 R2 e2⟩⟩
/-- three -/
theorem sd_par3 {c : Expr} {kt k2 pt2} (A : Agr X C) (ha : PA X [a, b, c] (tAK C m q ks g)) (hi : X.N[i]? = some x) (hj : X.N[j]? = some y) (hz : X.N[l]? = some z) (hl : ks.length = 3 := by rfl) (hij : i ≠ j := by decide) (hil : i ≠ l := by decide) (hjl : j ≠ l := by decide)
    (hx : X.env.scope.names.lookup x = some .local := by rfl) (hy : X.env.scope.names.lookup y = some .local := by rfl) (hz' : X.env.scope.names.lookup z = some .local := by rfl) (ho : okSl C.io m [i, j, l] = true := by rfl)
    (hw : swappedStores [.Tuple [.Name x px, .Name y py, .Name z pz] kt pt] (.Tuple [a, b, c] k2 pt2) X.env = pure (some [x, y, z]) := by rfl)
    (hs : swapsWithSole [.Tuple [.Name x px, .Name y py, .Name z pz] kt pt] (.Tuple [a, b, c] k2 pt2) pos.line X.env = pure false := by rfl) (hc : X.calm = true := by rfl) :
    PS X (.Assign [.Tuple [.Name x px, .Name y py, .Name z pz] kt pt] (.Tuple [a, b, c] k2 pt2) pos) (tS C m (setM m [i, j, l] ks) mb mc (asgL [i, j, l] g)) := PS.imp (ps_par3 hc A.nd hi hj hz hij hil hjl hx hy hz' ha hw hs) fun D σ H ⟨ρ, fp, R, p⟩ =>
  ⟨ρ, fp, R, p.bnd.imp fun ds ρ1 p1 vs H1 fp1 F R1 e1 q1 al fr => by
    obtain ⟨fp2, R2, e2⟩ := Rep.setL (is := [i, j, l]) hl.symm (okSl_at ho) R1 e1 al fr
    have n := al.lens.1
    rw [hl] at n
    match vs, n with
    | [u, v, w], _ => exact ⟨u, v, w, rfl, p1 _ H1 fp2 R2 e2⟩⟩
/-- names as targets -/
def gN : List Nat → TGs
  | [] => gNil
  | i :: is => gCons (gName i) (gN is)
theorem gn_nil : PGs X [] (gN []) := pgs_nil
theorem gn_cons {is : List Nat} (A : Agr X C) (hi : X.N[i]? = some x) (r : PGs X es (gN is)) (hx : Loc X.env.scope x := by first | exact Or.inl rfl | exact Or.inr rfl) (hf : X.fn x = true ∨ X.env.scope.names.lookup x = some .local := by first | exact .inl rfl | exact .inr rfl)
    (hs : (assignEach (.Name x px :: es) X.env).map (·.2) = assign (.Name x px) X.env :: (assignEach es X.env).map (·.2) := by rfl) : PGs X (.Name x px :: es) (gN (i :: is)) := pgs_cons (pg_name A.nd hi hx hf) r hs
theorem gn_use : ∀ {is : List Nat} {vs : List V} {σ : L2.St} {H : Hp} {Q : L2.St → Hp → Prop}, vs.length = is.length → Q (setV σ is vs) H → gN is vs σ H Q
  | [], [], _, _, _, _, q => ⟨rfl, q⟩
  | i :: is, v :: vs, _, _, _, h, q => ⟨v, vs, rfl, gn_use (is := is) (by simpa using h) q⟩
/-- names = values by way of a tuple -/
theorem sd_parT {is : List Nat} {ts : List Expr} {kt k2 pt2} (A : Agr X C) (ha : PA X es (tAK C m q ks g)) (hg : PGs X ts (gN is)) (hl : is.length = ks.length := by rfl) (ho : okSl C.io m is = true := by rfl) (hsz : ks.length ≤ lineN := by decide)
    (hs : swapsWithSole [.Tuple ts kt pt] (.Tuple es k2 pt2) pos.line X.env = pure false := by rfl) (hw : swappedStores [.Tuple ts kt pt] (.Tuple es k2 pt2) X.env = pure none := by rfl)
    (h1 : (assignEach [.Tuple ts kt pt] X.env).map (·.2) = [assign (.Tuple ts kt pt) X.env] := by rfl) (hn : (assignEach ts X.env).length = is.length := by rfl) (hst : (assignEach ts X.env).findIdx? (·.1) = none := by rfl) (hc : X.calm = true := by rfl) :
    PS X (.Assign [.Tuple ts kt pt] (.Tuple es k2 pt2) pos) (tS C m (setM m is ks) mb mc (asgL is g)) := PS.imp (ps_asg (pe_tup ha) (pg_tup hc hg hn hst) hs hw h1) fun D σ H ⟨ρ, fp, R, p⟩ =>
  ⟨ρ, fp, R, p.bnd.imp fun ds ρ1 p1 vs H1 fp1 F R1 e1 q1 al fr => by
    obtain ⟨l1, l2⟩ := al.lens
    refine ⟨by rw [l1, ← lineN_eq]; exact hsz, fun n hn => ?_⟩
    have gr : Gr H1 (upd H1 n (.tup vs)) := Gr.upd hn
    have R1' := R1.stay gr
    have e1' : Evo fp H fp1 (upd H1 n (.tup vs)) := e1.mono gr
    obtain ⟨fp2, R2, e2⟩ := Rep.setL (is := is) hl (okSl_at ho) R1' e1' (al.keep (hide_up gr.g) fun a o _ y nt => gr.g a o y nt) fr
    exact ⟨n, vs, rfl, .inl (.inl upd_same), by rw [l1, hl], gn_use (by rw [l1, hl]) (p1 _ _ fp2 R2 e2)⟩⟩
end
/-! ### targets -/
/-- the slots but for is are as they were -/
def Off (is : List Nat) (σ σ' : L2.St) : Prop := σ'.length = σ.length ∧ ∀ j, j ∉ is → σ'[j]? = σ[j]?
theorem Off.refl {is : List Nat} {σ : L2.St} : Off is σ σ := ⟨rfl, fun _ _ => rfl⟩
theorem Off.app {is js : List Nat} {σ σ1 σ2 : L2.St} (a : Off is σ σ1) (b : Off js σ1 σ2) : Off (is ++ js) σ σ2 := ⟨b.1.trans a.1, fun j h => by
  rw [List.mem_append, not_or] at h
  exact (b.2 j h.2).trans (a.2 j h.1)⟩
theorem wipe_at {σ : L2.St} {i : Nat} : ∀ {vs : List Nat}, (wipe σ vs)[i]? = if i ∈ vs then (σ[i]?).map (fun _ => none) else σ[i]?
  | [] => by simp [wipe]
  | v :: vs => by
    unfold wipe
    rw [List.getElem?_set, wipe_length]
    have r := wipe_at (σ := σ) (i := i) (vs := vs)
    by_cases e : v = i
    · subst e
      by_cases l : v < σ.length
      · simp [l]
      · simp [l]
    · have e' : i ≠ v := fun z => e z.symm
      rw [if_neg e, r]
      simp [e']
theorem Off.wipe {is vs : List Nat} {σ σ' : L2.St} (a : Off is σ σ') (h : ∀ i ∈ is, i ∈ vs) : L2.wipe σ' vs = L2.wipe σ vs := by
  refine List.ext_getElem? fun j => ?_
  rw [wipe_at, wipe_at]
  by_cases c : j ∈ vs
  · rw [if_pos c, if_pos c]
    by_cases l : j < σ.length
    · rw [List.getElem?_eq_getElem l, List.getElem?_eq_getElem (by rw [a.1]; exact l)]; rfl
    · rw [List.getElem?_eq_none (by rw [a.1]; omega), List.getElem?_eq_none (by omega)]
  · rw [if_neg c, if_neg c]
    exact a.2 j fun z => c (h j z)
def tG (C : Cd) (m m' : List Mode) (is : List Nat) (t : Tg) : TG := fun v σ H Q => ∃ ρ fp d, Rep C m ρ σ H fp ∧ Is C.K C.mg (hide (own C.M fp) H) v d ∧ Pst C fp H (fun _ ρ' => ∀ σ' fp', Rep C m' ρ' σ' H fp' → Evo fp H fp' H → Off is σ σ' → Q σ' H) (t d ρ)
def tGs (C : Cd) (m m' : List Mode) (is : List Nat) (ts : List Tg) : TGs := fun vs σ H Q => ∃ ρ fp ds, Rep C m ρ σ H fp ∧ IsL C.K C.mg (hide (own C.M fp) H) vs ds ∧ Pst C fp H (fun _ ρ' => ∀ σ' fp', Rep C m' ρ' σ' H fp' → Evo fp H fp' H → Off is σ σ' → Q σ' H) (tgs ts ds ρ)
theorem PG.imp {X : Cx} {e : Expr} {t t' : TG} (h : PG X e t) (i : ∀ v σ H Q, t' v σ H Q → t v σ H Q) : PG X e t' := ⟨fun pins s σ H v u Q I r q => h.run pins s σ H v u Q I r (i v σ H Q q)⟩
theorem PGs.imp {X : Cx} {e : List Expr} {t t' : TGs} (h : PGs X e t) (i : ∀ v σ H Q, t' v σ H Q → t v σ H Q) : PGs X e t' := ⟨fun pins s σ H v u Q I r q => h.run pins s σ H v u Q I r (i v σ H Q q)⟩
section
variable {X : Cx} {C : Cd} {m m' m1 mb mc : List Mode} {q : Bool} {e : Expr} {es : List Expr} {f : M D} {pos px : Pos} {x : Str} {i : Nat} {t : Tg} {ts : List Tg} {is js : List Nat}
theorem tg_name (A : Agr X C) (hi : X.N[i]? = some x) (hx : Loc X.env.scope x := by first | exact Or.inl rfl | exact Or.inr rfl) (hf : X.fn x = true ∨ X.env.scope.names.lookup x = some .local := by first | exact .inl rfl | exact .inr rfl) (ho : okSl C.io m [i] = true := by rfl) :
    PG X (.Name x px) (tG C m (m.set i .fz) [i] (tgN i)) := PG.imp (pg_name A.nd hi hx hf) fun v σ H Q ⟨ρ, fp, d, R, iv, p⟩ => by
  obtain ⟨a1, a2⟩ := okSl_at ho i (List.mem_cons_self ..)
  obtain ⟨R2, e2⟩ := Rep.setR (C := C) (k := .fz) (F := fun _ => False) rfl R (Evo.refl (fp := fp) (H := H)) ⟨iv, fun _ z => z⟩ a1 a2
  exact p _ _ R2 e2 ⟨List.length_set .., fun j hj => List.getElem?_set_ne fun z => hj (by rw [z]; exact List.mem_singleton.mpr rfl)⟩
theorem tg_nil : PGs X [] (tGs C m m [] []) := PGs.imp pgs_nil fun vs σ H Q ⟨ρ, fp, ds, R, iv, p⟩ => by
  cases iv with
  | nil => exact ⟨rfl, p σ fp R .refl .refl⟩
  | cons _ _ => exact p.elim
theorem tg_cons (h1 : PG X e (tG C m m1 is t)) (h2 : PGs X es (tGs C m1 m' js ts)) (hs : (assignEach (e :: es) X.env).map (·.2) = assign e X.env :: (assignEach es X.env).map (·.2) := by rfl) : PGs X (e :: es) (tGs C m m' (is ++ js) (t :: ts)) := PGs.imp (pgs_cons h1 h2 hs) fun vs σ H Q ⟨ρ, fp, ds, R, iv, p⟩ => by
  cases iv with
  | nil => exact p.elim
  | cons a r =>
    have p : Pst C fp H _ (bnd (t _) (fun _ => tgs ts _) ρ) := p
    exact ⟨_, _, rfl, ρ, fp, _, R, a, p.bnd.imp fun _ ρ1 p1 σ1 fp1 R1 e1 o1 => ⟨ρ1, fp1, _, R1, r.up (e1.fz R.ml), (p1.later e1).imp fun _ ρ2 p2 σ2 fp2 R2 e2 o2 => p2 σ2 fp2 R2 (e1.trans e2) (o1.app o2)⟩⟩
theorem tg_tup {n : Nat} {k : Nat} (A : Agr X C) (h : PGs X es (tGs C m m' is ts)) (hl : ts.length = n := by rfl) (hn : (assignEach es X.env).length = n := by rfl) (hst : (assignEach es X.env).findIdx? (·.1) = none := by rfl) (hc : X.calm = true := by rfl) : PG X (.Tuple es k pos) (tG C m m' is (tgT ts)) :=
  PG.imp (pg_tup hc h hn hst) fun v σ H Q ⟨ρ, fp, d, R, iv, p⟩ => by
    cases d with
    | tuple ds =>
      obtain ⟨a, xs, rfl, h1, h2⟩ := iv.tuple_of
      have p : Pst C fp H _ ((if ds.length = ts.length then tgs ts ds else stk) ρ) := p
      by_cases hlen : ds.length = ts.length
      · rw [if_pos hlen] at p
        exact ⟨a, xs, rfl, by rw [A.K]; exact SqT.up hide_grow h1, by rw [h2.length, hlen, hl], ρ, fp, ds, R, h2, p⟩
      · rw [if_neg hlen] at p
        exact p.elim
    | _ => exact p.elim
/-- a target = a frozen value -/
theorem sd_asgT {tg : Expr} (he : PE X e (tE C m q .fz f)) (hg : PG X tg (tG C m m' is t)) (hs : swapsWithSole [tg] e pos.line X.env = pure false := by rfl) (hw : swappedStores [tg] e X.env = pure none := by rfl)
    (h1 : (assignEach [tg] X.env).map (·.2) = [assign tg X.env] := by rfl) : PS X (.Assign [tg] e pos) (tS C m m' mb mc (asgT t f)) := PS.imp (ps_asg he hg hs hw h1) fun D σ H ⟨ρ, fp, R, p⟩ =>
  ⟨ρ, fp, R, p.bnd.imp fun d ρ1 p1 v H1 fp1 F R1 e1 q1 r1 => ⟨ρ1, fp1, d, R1, r1.1, (p1.later e1).bnd.imp fun _ ρ2 p2 σ2 fp2 R2 e2 _ => p2 σ2 H1 fp2 R2 (e1.trans e2)⟩⟩
/-- name op= value (frozen) -/
theorem sd_aug {op : Operator} {r : R2} {o : Op2} (A : Agr X C) (ho : OpD C.K C.mg r o) (hr : OpR X (inplaceOp op) r) (hm : m[i]? = some .fz) (he : PE X e (tE C m true .fz f)) (hi : X.N[i]? = some x) (hx : Loc X.env.scope x := by first | exact Or.inl rfl | exact Or.inr rfl)
    (hs : okSl C.io m [i] = true := by rfl) (hf : X.fn x = true ∨ X.env.scope.names.lookup x = some .local := by first | exact .inl rfl | exact .inr rfl) : PS X (.AugAssign (.Name x px) op e pos) (tS C m (m.set i .fz) mb mc (asg i (bin o (var i) f))) :=
  PS.imp (ps_aug A.nd hi hx he (fun pins s σ H x y v u Q I r1 r2 h => hr pins s σ H x y v u Q I r1 r2 h) hf) fun D σ H ⟨ρ, fp, R, p⟩ => by
    have p := p.bnd.bnd
    unfold var at p
    cases h : ρ[i]? with
    | none => rw [h] at p; exact p.elim
    | some oo =>
      cases oo with
      | none => rw [h] at p; exact p.elim
      | some d =>
        rw [h] at p
        obtain ⟨v, h1, h2⟩ := R.slot i d h
        rw [hm] at h2
        have p : Pst C fp H _ (bnd f (fun y => lft (o d y)) ρ) := p
        refine ⟨v, h1, ρ, fp, R, p.bnd.imp fun y ρ1 p1 v1 H1 fp1 F1 R1 e1 q1 r1 => ?_⟩
        obtain ⟨u, hu, k⟩ := p1.lft
        obtain ⟨rfl, rfl, g⟩ := q1 rfl
        refine ho (own C.M fp1) H1 v v1 d y u _ R1.live (Is.up (hide_up g.g) h2) r1.1 hu fun w H2 g2 iw => ?_
        obtain ⟨a1, a2⟩ := okSl_at hs i (List.mem_cons_self ..)
        obtain ⟨R2, e2⟩ := Rep.setR (C := C) (k := .fz) (F := fun _ => False) rfl (R1.stay g2) (e1.mono g2) ⟨iw, fun _ z => z⟩ a1 a2
        exact k σ |> fun _ => by
          have kk := k
          exact kk _ H2 _ R2 e2
end
end Dn

/-! DnJ -/
set_option Elab.async false
set_option linter.all false
set_option maxRecDepth 100000
/-! Dn, part J: loops. -/
namespace Dn
open PySem PySem.Spec PyProof.Rows L2
variable [LamTab]
/-- .. and the def's own exceptions may pass -/
structure AgS (X : Cx) (C : Cd) : Prop extends Agr X C where
  own : PassesOwn (model X.prog X.w) X.A X.env X.xe
/-- the iterator J yields (values that stand for) ds, from the state (fp, H) on -/
def WalkD (C : Cd) (fp : Fp) (H : Hp) (J : It) (ds : List D) : Prop := ∃ (G : Hp → Prop) (Y : Nat → Hp → V → Hp → Prop), Walk J ds.length G Y ∧ (∀ H1, grow (hide (own C.M fp) H) H1 → G H1) ∧
  ∀ i (O : Ad) H1 x H2, grow (hide (own C.M fp) H) (hide O H1) → (∀ a, O a → H1 a ≠ none) → Y i H1 x H2 → Gr H1 H2 ∧ ∃ d, ds[i]? = some d ∧ Is C.K C.mg (hide O H2) x d
def tI (C : Cd) (m : List Mode) (f : M (List D)) : TI := fun σ H R => ∃ ρ fp, Rep C m ρ σ H fp ∧ Pst C fp H (fun ds ρ' => ∀ J H' fp', Rep C m ρ' σ H' fp' → Evo fp H fp' H' → WalkD C fp' H' J ds → R J H') (f ρ)
theorem PI.imp {X : Cx} {tg e : Expr} {t t' : TI} (h : PI X tg e t) (i : ∀ σ H R, t' σ H R → t σ H R) : PI X tg e t' := ⟨fun pins s σ H R I q => h.run pins s σ H R I (i σ H R q)⟩
section
variable {X : Cx} {C : Cd} {m m1 mn mb mc : List Mode} {q : Bool} {tg iter c : Expr} {body : List Stmt} {f : M (List D)} {t : Tg} {s : S} {pos : Pos} {g : M Bool} {is : List Nat}
theorem drop_cons {α : Type} {ds : List α} {i : Nat} {d : α} (h : ds[i]? = some d) : ds.drop i = d :: ds.drop (i + 1) := by
  have hl : i < ds.length := by
    refine Classical.byContradiction fun z => ?_
    rw [List.getElem?_eq_none (by omega)] at h
    cases h
  rw [List.drop_eq_getElem_cons hl]
  rw [List.getElem?_eq_getElem hl] at h
  rw [Option.some.inj h]
/-- a for: its head, its end and its breaks are of the modes m -/
theorem sd_for (A : AgS X C) (hi : PI X tg iter (tI C m f)) (hg : PG X tg (tG C m m1 is t)) (hb : PSs X body (tS C m1 m m m s)) (hs : ∀ x, foldedSetIterable iter X.env x = pure x := by intro _; rfl) (hc : X.calm = true := by rfl) :
    PS X (.For tg iter body [] pos) (tS C m m mb mc (forS f t s)) := PS.imp (ps_for A.own hc hi hg hb hs) fun D σ H ⟨ρ, fp, R, p⟩ => by
  refine ⟨ρ, fp, R, p.bnd.imp fun ds ρ1 p1 J H1 fp1 R1 e1 ⟨G, Y, w, hG, hY⟩ => ?_⟩
  refine for_it w (fun i σ' H' => ∃ ρ' fp', Rep C m ρ' σ' H' fp' ∧ Evo fp1 H1 fp' H' ∧ Pst C fp' H' (SK C m mb mc D fp' H') (forL t s (ds.drop i) ρ')) ⟨ρ1, fp1, R1, .refl, SK.pst p1 e1⟩ (fun i σ' H' _ ⟨ρ', fp', R', e', p'⟩ => hG H' ((e'.fz R1.ml).trans hide_grow)) (fun i x σ' H' H2 hlt ⟨ρ', fp', R', e', p'⟩ y => ?_) fun σ' H' ⟨ρ', fp', R', e', p'⟩ => ?_
  · obtain ⟨gr, d, hd, iv⟩ := hY i (own C.M fp') H' x H2 (e'.fz R1.ml) R'.live y
    rw [drop_cons hd] at p'
    have p' : Pst C fp' H' _ (bnd (t d) (fun _ => bnd s fun f => match f with
      | .next => forL t s (ds.drop (i + 1))
      | .cont => forL t s (ds.drop (i + 1))
      | .brk => nx
      | .rt d => ret (.rt d)) ρ') := p'
    have e2 : Evo fp' H' fp' H2 := Evo.grow gr
    refine ⟨ρ', fp', d, R'.stay gr, iv, (SK.pst p' e2).bnd.imp fun _ ρ2 p2 σ2 fp2 R2 e3 _ => ⟨ρ2, fp2, R2, (SK.pst p2 e3).bnd.imp fun fl ρ3 p3 => ?_⟩⟩
    have again : ∀ σ3 H3 fp3, Rep C m ρ3 σ3 H3 fp3 → Evo fp2 H2 fp3 H3 → Pst C fp2 H2 (SK C m mb mc D fp2 H2) (forL t s (ds.drop (i + 1)) ρ3) → ∃ ρ' fp', Rep C m ρ' σ3 H3 fp' ∧ Evo fp1 H1 fp' H3 ∧ Pst C fp' H3 (SK C m mb mc D fp' H3) (forL t s (ds.drop (i + 1)) ρ') := fun σ3 H3 fp3 R3 e4 p4 =>
      ⟨ρ3, fp3, R3, e'.trans (e2.trans (e3.trans e4)), SK.pst p4 e4⟩
    cases fl with
    | next => exact fun σ3 H3 fp3 R3 e4 => again σ3 H3 fp3 R3 e4 p3
    | cont => exact fun σ3 H3 fp3 R3 e4 => again σ3 H3 fp3 R3 e4 p3
    | brk => exact fun σ3 H3 fp3 R3 e4 => p3 σ3 H3 fp3 R3 e4
    | rt d => exact p3
  · rw [List.drop_eq_nil_of_le (Nat.le_refl _)] at p'
    exact p' σ' H' fp' R' .refl
/-- a while -/
theorem sd_while (A : AgS X C) {n : Nat} (hc : PT X c (tT C m q g)) (hb : PSs X body (tS C m m m m s)) : PS X (.While c body [] pos) (tS C m m mb mc (whlN g s n)) := PS.imp (ps_while A.own hc hb) fun D σ H ⟨ρ, fp, R, p⟩ => by
  refine ⟨fun k σ' H' => ∃ ρ' fp', Rep C m ρ' σ' H' fp' ∧ Pst C fp' H' (SK C m mb mc D fp' H') (whlN g s k ρ'), ⟨n, ρ, fp, R, p⟩, ?_⟩
  rintro k σ1 H1 ⟨ρ1, fp1, R1, p1⟩
  cases k with
  | zero => exact p1.elim
  | succ k =>
    have p1 : Pst C fp1 H1 _ (bnd g (fun x => if x = true then bnd s fun f => match f with
      | .next => whlN g s k
      | .cont => whlN g s k
      | .brk => nx
      | .rt d => ret (.rt d)
      else nx) ρ1) := p1
    refine ⟨ρ1, fp1, R1, p1.bnd.imp fun x ρ2 p2 H2 fp2 R2 e2 q2 => ?_⟩
    cases x with
    | false =>
      rw [if_neg Bool.false_ne_true] at p2 ⊢
      exact p2 σ1 H2 fp2 R2 e2
    | true =>
      rw [if_pos rfl] at p2 ⊢
      refine ⟨fun σ' H' => ∃ ρ' fp', Rep C m ρ' σ' H' fp' ∧ Pst C fp' H' (SK C m mb mc D fp' H') (whlN g s k ρ'), fun σ' H' z => ⟨k, Nat.lt_succ_self k, z⟩, ρ2, fp2, R2, (SK.pst p2 e2).bnd.imp fun fl ρ3 p3 => ?_⟩
      cases fl with
      | next => exact fun σ3 H3 fp3 R3 e3 => ⟨ρ3, fp3, R3, SK.pst p3 e3⟩
      | cont => exact fun σ3 H3 fp3 R3 e3 => ⟨ρ3, fp3, R3, SK.pst p3 e3⟩
      | brk => exact fun σ3 H3 fp3 R3 e3 => p3 σ3 H3 fp3 R3 e3
      | rt d => exact p3
end
/-! ### iterators -/
/-- the items of what is walked -/
def itemsD : D → Option (List D)
  | .list xs => some xs
  | .tuple xs => some xs
  | _ => none
def itV (a : M D) : M (List D) := bnd a fun x => lft (itemsD x)
def itemsT : D → Option (List D)
  | .tuple xs => some xs
  | _ => none
def itemsL : D → Option (List D)
  | .list xs => some xs
  | _ => none
def itT (a : M D) : M (List D) := bnd a fun x => lft (itemsT x)
def itL (a : M D) : M (List D) := bnd a fun x => lft (itemsL x)
def rngOk (i : Int) : Bool := decide (-(2 ^ 62) ≤ i) && decide (i < 2 ^ 62)
def rngL (lo : Int) (n : Nat) : List D := (List.range n).map fun (i : Nat) => .int (lo + (i : Int))
def rng1D : List D → Option (List D)
  | [.int j] => if rngOk j then some (rngL 0 j.toNat) else none
  | _ => none
def rng2D : List D → Option (List D)
  | [.int i, .int j] => if rngOk i && rngOk j then some (rngL i (j - i).toNat) else none
  | _ => none
def itA (f : List D → Option (List D)) (a : M (List D)) : M (List D) := bnd a fun xs => lft (f xs)
/-- (0, x), (1, y), .. -/
def numL : Nat → List D → List D
  | _, [] => []
  | k, x :: xs => .tuple [.int (k : Int), x] :: numL (k + 1) xs
def zipL : List D → List D → List D
  | x :: xs, y :: ys => .tuple [x, y] :: zipL xs ys
  | _, _ => []
section
variable {C : Cd} {m : List Mode} {ρ : Env} {σ : L2.St} {fp : Fp} {H : Hp}
theorem numL_len : ∀ (xs : List D) (k : Nat), (numL k xs).length = xs.length
  | [], _ => rfl
  | x :: xs, k => congrArg (· + 1) (numL_len xs (k + 1))
theorem numL_at : ∀ (xs : List D) (k i : Nat) (d : D), xs[i]? = some d → (numL k xs)[i]? = some (.tuple [.int ((k + i : Nat) : Int), d])
  | [], _, _, _, e => by simp at e
  | x :: xs, k, 0, d, e => by simp at e; subst e; rfl
  | x :: xs, k, i + 1, d, e => by
    have := numL_at xs (k + 1) i d (by simpa using e)
    show (numL (k + 1) xs)[i]? = _
    rw [this, show k + 1 + i = k + (i + 1) by omega]
theorem zipL_len : ∀ (xs ys : List D), (zipL xs ys).length = min xs.length ys.length
  | [], _ => by simp [zipL]
  | _ :: _, [] => by simp [zipL]
  | x :: xs, y :: ys => by simp [zipL, zipL_len xs ys, Nat.succ_min_succ]
theorem zipL_at : ∀ (xs ys : List D) (i : Nat) (d e : D), xs[i]? = some d → ys[i]? = some e → (zipL xs ys)[i]? = some (.tuple [d, e])
  | [], _, _, _, _, e, _ => by simp at e
  | _ :: _, [], _, _, _, _, e => by simp at e
  | x :: xs, y :: ys, 0, d, e, h1, h2 => by simp at h1 h2; subst h1 h2; rfl
  | x :: xs, y :: ys, i + 1, d, e, h1, h2 => by
    have := zipL_at xs ys i d e (by simpa using h1) (by simpa using h2)
    simpa [zipL] using this
theorem wd_lst {a : Addr} {vs : List V} {ds : List D} (h1 : Rd (hide (own C.M fp) H) a (.lst vs)) (h2 : IsL C.K C.mg (hide (own C.M fp) H) vs ds) : WalkD C fp H (Itl C.K a) ds :=
  ⟨fun H => SqL C.K H a vs, YAt vs, by rw [← h2.length]; exact walk_list, fun H1 e => .inl (Rd.up e h1), fun i O H1 x H2 e lv ⟨y1, y2⟩ => by
    subst y1
    obtain ⟨d, hd, is⟩ := h2.get y2
    exact ⟨.refl, d, hd, is.up e⟩⟩
theorem wd_tup {a : Addr} {vs : List V} {ds : List D} (h1 : SqT C.K (hide (own C.M fp) H) a vs) (h2 : IsL C.K C.mg (hide (own C.M fp) H) vs ds) : WalkD C fp H (Itt C.K a) ds :=
  ⟨fun H => SqT C.K H a vs, YAt vs, by rw [← h2.length]; exact walk_tup, fun H1 e => SqT.up e h1, fun i O H1 x H2 e lv ⟨y1, y2⟩ => by
    subst y1
    obtain ⟨d, hd, is⟩ := h2.get y2
    exact ⟨.refl, d, hd, is.up e⟩⟩
theorem rngL_len {lo : Int} {n : Nat} : (rngL lo n).length = n := by unfold rngL; rw [List.length_map, List.length_range]
theorem wd_rng {lo : Int} {n : Nat} : WalkD C fp H (Itr lo n) (rngL lo n) :=
  ⟨fun _ => True, fun i H1 x H2 => i < n ∧ YFn (fun i => .int (lo + i)) i H1 x H2, by
    rw [rngL_len]
    exact ⟨fun i _ h _ => h, fun _ _ => Nat.le_refl _, fun i H1 x H2 h _ y => ⟨h, y⟩⟩, fun _ _ => trivial, fun i O H1 x H2 e lv ⟨hi, y1, y2⟩ => by
    subst y1 y2
    exact ⟨.refl, .int (lo + i), by unfold rngL; rw [List.getElem?_map, List.getElem?_range hi]; rfl, .int _⟩⟩
theorem pair_is {a : Addr} {x y : V} {d e : D} {G : Ad} (h : H a = none) (lv : ∀ a, G a → H a ≠ none) (hx : Is C.K C.mg (hide G H) x d) (hy : Is C.K C.mg (hide G H) y e) : Is C.K C.mg (hide G (upd H a (.tup [x, y]))) (.ref a) (.tuple [d, e]) := by
  have gr := hide_up (O := G) (grow.upd (o := .tup [x, y]) h)
  exact .tup (.inl (.inl (hide_of (fun z => lv a z h) upd_same))) (.cons (hx.up gr) (.cons (hy.up gr) .nil))
theorem wd_enum {a : Addr} {vs : List V} {ds : List D} (h1 : Rd (hide (own C.M fp) H) a (.lst vs)) (h2 : IsL C.K C.mg (hide (own C.M fp) H) vs ds) : WalkD C fp H (Ite C.K a) (numL 0 ds) :=
  ⟨fun H => SqL C.K H a vs, YPair (fun i => some (.int (i : Nat))) (fun i => vs[i]?), by rw [numL_len, ← h2.length]; exact walk_enum, fun H1 e => .inl (Rd.up e h1), fun i O H1 x H2 e lv ⟨T, v, w, y1, y2, y3, y4, y5⟩ => by
    subst y1 y3
    cases y4
    obtain ⟨d, hd, is⟩ := h2.get y5
    exact ⟨Gr.upd y2, _, numL_at ds 0 i d hd, by rw [Nat.zero_add]; exact pair_is y2 lv (.int _) (is.up e)⟩⟩
end
section
variable {X : Cx} {C : Cd} {m : List Mode} {q : Bool} {tg a : Expr} {es : List Expr} {fa : M D} {g : M (List D)} {p pos : Pos}
theorem pi_lstD (A : Agr X C) (ha : PE X a (tE C m q .fz fa)) : PI X tg a (tI C m (itL fa)) := PI.imp (pi_list ha) fun σ H R ⟨ρ, fp, Rp, p⟩ => by
  refine ⟨ρ, fp, Rp, p.bnd.imp fun x ρ1 p1 v H1 fp1 F1 R1 e1 q1 r1 => ?_⟩
  obtain ⟨ds, hd, k⟩ := p1.lft
  cases x with
  | list xs =>
    cases hd
    obtain ⟨b, vs, rfl, h1, h2⟩ := r1.1.list_of
    rw [A.K]
    exact ⟨b, rfl, ⟨vs, .inl (Rd.up hide_grow h1)⟩, k _ H1 fp1 R1 e1 (wd_lst h1 h2)⟩
  | _ => cases hd
theorem pi_tupD (A : Agr X C) (ha : PE X a (tE C m q .fz fa)) : PI X tg a (tI C m (itT fa)) := PI.imp (pi_tup ha) fun σ H R ⟨ρ, fp, Rp, p⟩ => by
  refine ⟨ρ, fp, Rp, p.bnd.imp fun x ρ1 p1 v H1 fp1 F1 R1 e1 q1 r1 => ?_⟩
  obtain ⟨ds, hd, k⟩ := p1.lft
  cases x with
  | tuple xs =>
    cases hd
    obtain ⟨b, vs, rfl, h1, h2⟩ := r1.1.tuple_of
    rw [A.K]
    exact ⟨b, rfl, ⟨vs, SqT.up hide_grow h1⟩, k _ H1 fp1 R1 e1 (wd_tup h1 h2)⟩
  | _ => cases hd
theorem rngOk_at {i : Int} (h : rngOk i = true) : -(2 ^ 62) ≤ i ∧ i < 2 ^ 62 := by
  unfold rngOk at h
  simp only [Bool.and_eq_true, decide_eq_true_eq] at h
  exact h
theorem pi_rng1D {e : Expr} (ha : PA X [e] (tA C m q g)) (hm : X.mg "range" = none) (hg : Gl X "range" := by rfl) (hs : starEach [e] X.env = [(false, eval e X.env)] := by rfl) : PI X tg (.Call (.Name "range" p) [e] [] pos) (tI C m (itA rng1D g)) :=
  PI.imp (pi_range1 hg hm ha hs) fun σ H R ⟨ρ, fp, Rp, p⟩ => by
    refine ⟨ρ, fp, Rp, p.bnd.imp fun xs ρ1 p1 vs H1 fp1 R1 e1 q1 r1 => ?_⟩
    obtain ⟨ds, hd, k⟩ := p1.lft
    match xs, hd, r1 with
    | [.int j], hd, .cons v .nil =>
      simp only [rng1D] at hd
      split at hd
      · rename_i ho
        cases hd
        obtain ⟨o1, o2⟩ := rngOk_at ho
        rw [v.int_of]
        exact ⟨j, rfl, o1, o2, k _ H1 fp1 R1 e1 wd_rng⟩
      · cases hd
theorem pi_rng2D {e e2 : Expr} (ha : PA X [e, e2] (tA C m q g)) (hm : X.mg "range" = none) (hg : Gl X "range" := by rfl) (hs : starEach [e, e2] X.env = [(false, eval e X.env), (false, eval e2 X.env)] := by rfl) (hs2 : starEach [e2] X.env = [(false, eval e2 X.env)] := by rfl) :
    PI X tg (.Call (.Name "range" p) [e, e2] [] pos) (tI C m (itA rng2D g)) :=
  PI.imp (pi_range2 hg hm ha hs hs2) fun σ H R ⟨ρ, fp, Rp, p⟩ => by
    refine ⟨ρ, fp, Rp, p.bnd.imp fun xs ρ1 p1 vs H1 fp1 R1 e1 q1 r1 => ?_⟩
    obtain ⟨ds, hd, k⟩ := p1.lft
    match xs, hd, r1 with
    | [.int i, .int j], hd, .cons v (.cons w .nil) =>
      simp only [rng2D] at hd
      split at hd
      · rename_i ho
        cases hd
        rw [Bool.and_eq_true] at ho
        obtain ⟨o1, o2⟩ := rngOk_at ho.1
        obtain ⟨o3, o4⟩ := rngOk_at ho.2
        rw [v.int_of, w.int_of]
        exact ⟨i, j, rfl, ⟨o1, o2, o3, o4⟩, k _ H1 fp1 R1 e1 wd_rng⟩
      · cases hd
def enumLD : List D → Option (List D)
  | [.list xs] => some (numL 0 xs)
  | _ => none
theorem pi_enumL {e : Expr} {tpos : Pos} {elts : List Expr} {kk : Nat} (A : Agr X C) (ha : PA X [e] (tA C m q g)) (hm : X.mg "enumerate" = none) (hg : Gl X "enumerate" := by rfl) (hs : starEach [e] X.env = [(false, eval e X.env)] := by rfl) : PI X (.Tuple elts kk tpos) (.Call (.Name "enumerate" p) [e] [] pos) (tI C m (itA enumLD g)) :=
  PI.imp (pi_enum hg hm ha hs) fun σ H R ⟨ρ, fp, Rp, p⟩ => by
    refine ⟨ρ, fp, Rp, p.bnd.imp fun xs ρ1 p1 vs H1 fp1 R1 e1 q1 r1 => ?_⟩
    obtain ⟨ds, hd, k⟩ := p1.lft
    match xs, hd, r1 with
    | [.list xs], hd, .cons v .nil =>
      cases hd
      obtain ⟨b, ws, rfl, h1, h2⟩ := v.list_of
      rw [A.K]
      exact ⟨b, ws, rfl, .inl (Rd.up hide_grow h1), k _ H1 fp1 R1 e1 (wd_enum h1 h2)⟩
end
end Dn

/-! DnK -/
set_option Elab.async false
set_option linter.all false
set_option maxRecDepth 100000
/-! Dn, part K: comprehensions. -/
namespace Dn
open PySem PySem.Spec PyProof.Rows L2
variable [LamTab]
def restore (own : List Nat) (ρ0 ρ : Env) : Env := own.foldl (fun r i => r.set i (ρ0.getD i none)) ρ
/-- a block of its own: the names of own are forgotten, and given back behind it; nothing is raised out of it -/
def rst {α : Type} (own : List Nat) (x : M α) : M α := fun ρ => match x (forget own ρ) with
  | .ok a ρ' => .ok a (restore own ρ ρ')
  | .err _ _ _ => .stuck
  | .stuck => .stuck
def fgM {α : Type} (own : List Nat) (x : M α) : M α := fun ρ => x (forget own ρ)
def lcL (own : List Nat) (t : Tg) (c : M Bool) (e : M D) : List D → M (List D)
  | [] => ret []
  | x :: xs => bnd (t x) fun _ => bnd c fun b => if b = true then bnd e fun y => bnd (fgM own (lcL own t c e xs)) fun ys => ret (y :: ys) else fgM own (lcL own t c e xs)
def lcE (own : List Nat) (it : M (List D)) (t : Tg) (c : M Bool) (e : M D) : M D := bnd it fun xs => if xs.length ≤ lineN then rst own (bnd (lcL own t c e xs) fun ys => ret (.list ys)) else stk
theorem restore_len (own : List Nat) (ρ0 ρ : Env) : (restore own ρ0 ρ).length = ρ.length := by
  unfold restore
  induction own generalizing ρ with
  | nil => rfl
  | cons i is ih => rw [List.foldl_cons, ih, List.length_set]
theorem restore_at {own : List Nat} {ρ0 : Env} {j : Nat} : ∀ {ρ : Env} {d : D}, (restore own ρ0 ρ)[j]? = some (some d) → (j ∉ own ∧ ρ[j]? = some (some d)) ∨ (j ∈ own ∧ ρ0[j]? = some (some d)) ∨ (ρ[j]? = some (some d) ∧ j ∉ own) := by
  unfold restore
  induction own with
  | nil => intro ρ d h; exact .inl ⟨List.not_mem_nil, h⟩
  | cons i is ih =>
    intro ρ d h
    rw [List.foldl_cons] at h
    have key : (ρ.set i (ρ0.getD i none))[j]? = some (some d) → (j = i ∧ ρ0[j]? = some (some d)) ∨ (j ≠ i ∧ ρ[j]? = some (some d)) := fun h => by
      by_cases e : i = j
      · subst e
        rw [List.getElem?_set] at h
        simp only [if_true] at h
        split at h
        · refine .inl ⟨rfl, ?_⟩
          have h := Option.some.inj h
          rw [List.getD_eq_getElem?_getD] at h
          cases q : ρ0[i]? with
          | none => rw [q] at h; cases h
          | some o => rw [q] at h; exact congrArg some h
        · cases h
      · rw [List.getElem?_set_ne e] at h
        exact .inr ⟨fun z => e z.symm, h⟩
    rcases ih h with ⟨h1, h2⟩ | ⟨h1, h2⟩ | ⟨h2, h1⟩
    · rcases key h2 with ⟨k1, k2⟩ | ⟨k1, k2⟩
      · exact .inr (.inl ⟨by rw [k1]; exact List.mem_cons_self .., k2⟩)
      · exact .inl ⟨fun z => (List.mem_cons.mp z).elim k1 h1, k2⟩
    · exact .inr (.inl ⟨List.mem_cons_of_mem _ h1, h2⟩)
    · rcases key h2 with ⟨k1, k2⟩ | ⟨k1, k2⟩
      · exact .inr (.inl ⟨by rw [k1]; exact List.mem_cons_self .., k2⟩)
      · exact .inl ⟨fun z => (List.mem_cons.mp z).elim k1 h1, k2⟩
/-- the slots are frozen ones -/
def fzSl (io : List Nat) (m : List Mode) (is : List Nat) : Bool := is.all fun i => !io.contains i && decide (m[i]? = some .fz)
/-- in a block nothing is raised -/
def Cd.blk (C : Cd) : Cd := { C with E := fun _ _ _ _ => False }
def lvl : Kd → Nat
  | .new n => n
  | _ => 0
section
variable {C : Cd} {m : List Mode} {ρ ρ0 : Env} {σ σ1 : L2.St} {fp : Fp} {H : Hp}
theorem fzSl_at {io : List Nat} {is : List Nat} (h : fzSl io m is = true) : ∀ i ∈ is, i ∉ io ∧ m[i]? = some .fz := fun i hi => by
  have q := List.all_eq_true.mp h i hi
  simp only [Bool.and_eq_true, Bool.not_eq_true', decide_eq_true_eq] at q
  refine ⟨fun z => ?_, q.2⟩
  rw [List.contains_iff_mem.mpr z] at q
  cases q.1
/-- the slots are forgotten: what stands there is all one -/
theorem Rep.off {own : List Nat} (R : Rep C m ρ σ H fp) (hf : ∀ i ∈ own, i ∉ C.io ∧ m[i]? = some .fz) (o : Off own σ σ1) : Rep C m (forget own ρ) σ1 H fp where
  slot := fun i d e => by
    obtain ⟨e1, e2⟩ := forget_some e
    obtain ⟨v, h1, h2⟩ := R.slot i d e1
    exact ⟨v, by rw [o.2 i e2]; exact h1, h2⟩
  len := by rw [forget_len, R.len, o.1]
  dis := R.dis
  non := R.non
  msk := R.msk
  lv := R.lv
  io := fun i hi => by rw [o.2 i fun z => (hf i z).1 hi]; exact R.io i hi
  px := R.px
  tab := R.tab
theorem off_wipe {own : List Nat} : Off own σ (wipe σ own) := ⟨wipe_length _ _, fun j h => by rw [wipe_at, if_neg h]⟩
/-- .. and given back -/
theorem Rep.back {own : List Nat} (R : Rep C m ρ σ1 H fp) (h0 : ∀ i ∈ own, ∀ d, ρ0[i]? = some (some d) → ∃ v, σ[i]? = some (some v) ∧ Is C.K C.mg (hide (Dn.own C.M fp) H) v d) (hf : ∀ i ∈ own, i ∉ C.io ∧ m[i]? = some .fz) (o : Off own σ σ1) : Rep C m (restore own ρ0 ρ) σ H fp where
  slot := fun i d q => by
    have A : i ∉ own → ρ[i]? = some (some d) → ∃ v, σ[i]? = some (some v) ∧ SlotOk C.K C.mg (hide (Dn.own C.M fp) H) H m[i]? v d (fp i) := fun h1 h2 => by
      obtain ⟨v, k1, k2⟩ := R.slot i d h2
      exact ⟨v, by rw [← o.2 i h1]; exact k1, k2⟩
    rcases restore_at q with ⟨h1, h2⟩ | ⟨h1, h2⟩ | ⟨h2, h1⟩
    · exact A h1 h2
    · obtain ⟨v, k1, k2⟩ := h0 i h1 d h2
      refine ⟨v, k1, ?_⟩
      rw [(hf i h1).2]
      exact k2
    · exact A h1 h2
  len := by rw [restore_len, R.len, o.1]
  dis := R.dis
  non := R.non
  msk := R.msk
  lv := R.lv
  io := fun i hi => by rw [← o.2 i fun z => (hf i z).1 hi]; exact R.io i hi
  px := R.px
  tab := R.tab
/-- what is hidden and nobody's slot is written -/
theorem Rep.wrM {L : Addr} {o : HO} (R : Rep C m ρ σ H fp) (hL : C.M L) (po : Pl o) (t : Tb H (upd H L o)) : Rep C m ρ σ (upd H L o) fp where
  slot := fun i d q => by
    obtain ⟨v, h1, h2⟩ := R.slot i d q
    refine ⟨v, h1, h2.keep (fun b u e _ => ?_) fun a u z e _ => ?_⟩
    · obtain ⟨n1, n2⟩ := hide_at e
      exact hide_of n1 (by rw [upd_ne fun z => n1 (.inl (by rw [z]; exact hL))]; exact n2)
    · rw [upd_ne fun y => R.msk i a z (by rw [y]; exact hL)]; exact e
  len := R.len
  dis := R.dis
  non := R.non
  msk := R.msk
  lv := fun a q => by
    by_cases e : a = L
    · exact ⟨o, by rw [e, upd_same], po⟩
    · obtain ⟨u, h1, h2⟩ := R.lv a q
      exact ⟨u, by rw [upd_ne e]; exact h1, h2⟩
  io := R.io
  tab := t R.tab
  px := R.px.up fun b u e _ => by
    obtain ⟨n1, n2⟩ := hide_at e
    exact hide_of n1 (by rw [upd_ne fun z => n1 (.inl (by rw [z]; exact hL))]; exact n2)
theorem Rep.blk (R : Rep C m ρ σ H fp) : Rep C.blk m ρ σ H fp := ⟨R.slot, R.len, R.dis, R.non, R.msk, R.lv, R.io, R.px, R.tab⟩
theorem Rep.unblk (R : Rep C.blk m ρ σ H fp) : Rep C m ρ σ H fp := ⟨R.slot, R.len, R.dis, R.non, R.msk, R.lv, R.io, R.px, R.tab⟩
/-- what is told of a value with no exception in sight -/
def Fin {α : Type} (k : α → Env → Prop) : Out α → Prop
  | .ok a ρ' => k a ρ'
  | _ => False
theorem Fin.pst {α : Type} {k : α → Env → Prop} {o : Out α} (h : Fin k o) : Pst C fp H k o := by
  cases o with
  | ok a ρ' => exact h
  | err _ _ _ => exact h.elim
  | stuck => exact h.elim
theorem Fin.bnd {α β : Type} {k : β → Env → Prop} {x : M α} {g : α → M β} (h : Fin k (Dn.bnd x g ρ)) : Fin (fun a ρ1 => Fin k (g a ρ1)) (x ρ) := by
  unfold Dn.bnd at h
  cases e : x ρ with
  | ok a ρ1 => rw [e] at h; exact h
  | err c d ρ1 => rw [e] at h; exact h
  | stuck => rw [e] at h; exact h
theorem Pst.rst {α : Type} {own : List Nat} {k : α → Env → Prop} {x : M α} (h : Pst C fp H k (Dn.rst own x ρ)) : Fin (fun a ρ' => k a (restore own ρ ρ')) (x (forget own ρ)) := by
  unfold Dn.rst at h
  cases e : x (forget own ρ) with
  | ok a ρ1 => rw [e] at h; exact h
  | err c d ρ1 => rw [e] at h; exact h
  | stuck => rw [e] at h; exact h
theorem Fin.imp {α : Type} {k k' : α → Env → Prop} {o : Out α} (h : Fin k o) (i : ∀ a ρ, k a ρ → k' a ρ) : Fin k' o := by
  cases o with
  | ok a ρ' => exact i a ρ' h
  | err _ _ _ => exact h
  | stuck => exact h
theorem kv_ow {K : PySem.W.Frag} {mg : Str → Option Value} {G H : Hp} {k : Kd} {v : V} {d : D} {F : Ad} (h : KV K mg G H k v d F) : Ow K mg G H (lvl k) v d F := by
  match k, h with
  | .fz, h => exact h
  | .new n, h => exact h
theorem AllP.snoc {P : V → D → Ad → Prop} : ∀ {vs : List V} {ds : List D} {F F1 : Ad} {v : V} {d : D}, AllP P vs ds F → P v d F1 → (∀ a, F a → F1 a → False) → AllP P (vs ++ [v]) (ds ++ [d]) (fun a => F a ∨ F1 a)
  | [], [], F, F1, v, d, h, p, dj => ⟨F1, fun _ => False, p, fun _ z => z, fun _ _ z => z, fun a => ⟨fun z => z.elim (fun y => absurd y (h a)) .inl, fun z => z.elim .inr fun y => y.elim⟩⟩
  | w :: vs, e :: ds, F, F1, v, d, ⟨A1, A2, h1, h2, h3, h4⟩, p, dj => by
    refine ⟨A1, fun a => A2 a ∨ F1 a, h1, AllP.snoc h2 p fun a y z => dj a ((h4 a).mpr (.inr y)) z, fun a y z => z.elim (h3 a y) fun w => dj a ((h4 a).mpr (.inl y)) w, fun a => ⟨fun z => ?_, fun z => ?_⟩⟩
    · rcases z with z | z
      · exact ((h4 a).mp z).elim .inl fun y => .inr (.inl y)
      · exact .inr (.inr z)
    · rcases z with z | z | z
      · exact .inl ((h4 a).mpr (.inl z))
      · exact .inl ((h4 a).mpr (.inr z))
      · exact .inr z
  | [], _ :: _, _, _, _, _, h, _, _ => h.elim
  | _ :: _, [], _, _, _, _, h, _, _ => h.elim
end
/-- the context of a block -/
abbrev bx (X : Cx) (scope : Scope) (s : Shared) (H : Hp) (Cc : Addr) (cl : List (Str × Addr)) (fp : List Addr) : Cx := X.blk s H scope (compEnvC scope cl Cc X.env) fp
theorem Agr.blk {X : Cx} {C : Cd} (A : Agr X C) {scope : Scope} {s : Shared} {H : Hp} {Cc : Addr} {cl : List (Str × Addr)} {fp : List Addr} {F : Ad} : Agr (bx X scope s H Cc cl fp) (C.blk.plus F) := ⟨A.K, A.mg,  A.nd, takes0, A.hu, A.gd⟩
/-- the tests of a clause -/
def noT : M Bool := ret true
section
variable {X : Cx} {C : Cd} {m : List Mode} {q q1 q2 : Bool} {k : Kd} {c elt tg iter : Expr} {ifs : List Expr} {fi : M (List D)} {t : Tg} {g : M Bool} {fe : M D} {is : List Nat} {scope : Scope} {own : List (Str × Nat)} {pos : Pos}
theorem PTs.imp {t t' : TT} (h : PTs X ifs t) (i : ∀ σ H Q, t' σ H Q → t σ H Q) : PTs X ifs t' := ⟨fun pins s σ H Q I q => h.run pins s σ H Q I (i σ H Q q)⟩
theorem ts_nil : PTs X [] (tT C m true noT) := PTs.imp pts_nil fun σ H Q ⟨ρ, fp, R, p⟩ => p H fp R .refl .refl
theorem ts_one (h : PT X c (tT C m q g)) : PTs X [c] (tT C m q g) := pts_one h
theorem PGall {α : Sort _} {e : Expr} {t : α → TG} (h : ∀ x, PG X e (t x)) : PG X e (fun v σ H Q => ∃ x, t x v σ H Q) := ⟨fun pins s σ H v u Q I r ⟨x, q⟩ => (h x).run pins s σ H v u Q I r q⟩
theorem PTsall {α : Sort _} {t : α → TT} (h : ∀ x, PTs X ifs (t x)) : PTs X ifs (fun σ H Q => ∃ x, t x σ H Q) := ⟨fun pins s σ H Q I ⟨x, q⟩ => (h x).run pins s σ H Q I q⟩
/-- how far a comprehension is: at D the values so far -/
structure LcI (C : Cd) (m : List Mode) (n : Nat) (σ : L2.St) (fp1 : Fp) (H1 : Hp) (L : Addr) (i : Nat) (ρ : Env) (H : Hp) (fp : Fp) (acc : List V) (ds : List D) (F : Ad) : Prop where
  at_ : H L = some (.lst acc)
  len : acc.length ≤ i
  rep : Rep (C.plus fun a => a = L ∨ F a) m ρ σ H fp
  evo : Evo fp1 H1 fp H
  all : AllP (Ow C.K C.mg (hide (Dn.own (C.plus fun a => a = L ∨ F a).M fp) H) H n) acc ds F
  new : ∀ a, F a → H1 a = none ∧ a ≠ L
theorem LcI.base {n : Nat} {σ : L2.St} {fp1 fp : Fp} {H1 H : Hp} {L : Addr} {i : Nat} {ρ : Env} {acc : List V} {ds : List D} {F : Ad} (I : LcI C m n σ fp1 H1 L i ρ H fp acc ds F) (hL : H1 L = none) (ml : ∀ a, C.M a → H1 a ≠ none) : grow (hide (Dn.own C.M fp1) H1) (hide (Dn.own (C.plus fun a => a = L ∨ F a).M fp) H) := fun b o e nt => by
  obtain ⟨n1, n2⟩ := hide_at (I.evo.fz ml b o e nt)
  obtain ⟨_, l2⟩ := hide_at e
  refine hide_of (fun z => ?_) n2
  rcases z with (z | z | z) | z
  · exact n1 (.inl z)
  · rw [z, hL] at l2; cases l2
  · rw [(I.new b z).1] at l2; cases l2
  · exact n1 (.inr z)
/-- a step of the elements' code -/
theorem LcI.step {n : Nat} {σ σ' : L2.St} {fp1 fp fp' : Fp} {H1 H H' : Hp} {L : Addr} {i : Nat} {ρ ρ' : Env} {acc : List V} {ds : List D} {F : Ad} (I : LcI C m n σ fp1 H1 L i ρ H fp acc ds F) (R : Rep (C.plus fun a => a = L ∨ F a) m ρ' σ' H' fp') (e : Evo fp H fp' H') : LcI C m n σ' fp1 H1 L i ρ' H' fp' acc ds F where
  at_ := e.keep L _ I.at_ nt_lst fun j z => I.rep.msk j L z (.inr (.inl rfl))
  len := I.len
  rep := R
  evo := I.evo.trans e
  all := I.all.mono fun v d F1 s w => w.keep (e.fz I.rep.ml) fun a o z y nt => e.keep a o y nt fun j x => I.rep.msk j a x (.inr (.inr (s a z)))
  new := I.new
theorem Rep.unblkP {σ : L2.St} {ρ : Env} {fp : Fp} {H : Hp} {F : Ad} (R : Rep (C.blk.plus F) m ρ σ H fp) : Rep (C.plus F) m ρ σ H fp := ⟨R.slot, R.len, R.dis, R.non, R.msk, R.lv, R.io, R.px, R.tab⟩
theorem Off.off {is vs : List Nat} {σ σ1 σ2 : L2.St} (a : Off vs σ σ1) (b : Off is σ1 σ2) (h : ∀ i ∈ is, i ∈ vs) : Off vs σ σ2 := ⟨b.1.trans a.1, fun j z => (b.2 j fun y => z (h j y)).trans (a.2 j z)⟩
theorem Off.symm {vs : List Nat} {σ σ1 : L2.St} (a : Off vs σ σ1) : Off vs σ1 σ := ⟨a.1.symm, fun j z => (a.2 j z).symm⟩
theorem LcI.next {n : Nat} {σ σ' : L2.St} {fp1 fp : Fp} {H1 H : Hp} {L : Addr} {i : Nat} {ρ : Env} {acc : List V} {ds : List D} {F : Ad} {vs : List Nat} (I : LcI C m n σ' fp1 H1 L i ρ H fp acc ds F) (hf : ∀ i ∈ vs, i ∉ C.io ∧ m[i]? = some .fz) (o : Off vs σ σ') : LcI C m n (wipe σ vs) fp1 H1 L (i + 1) (forget vs ρ) H fp acc ds F where
  at_ := I.at_
  len := Nat.le_succ_of_le I.len
  rep := I.rep.off (C := C.plus fun a => a = L ∨ F a) hf (o.symm.off off_wipe fun _ z => z)
  evo := I.evo
  all := I.all
  new := I.new
theorem LcI.push {σ σ2 : L2.St} {fp1 fp3 fp4 : Fp} {H1 H3 H4 : Hp} {L : Addr} {i : Nat} {ρ3 ρ4 : Env} {acc : List V} {ds : List D} {F F1 : Ad} {vs : List Nat} {v : V} {y : D} (I4 : LcI C m (lvl k) σ2 fp1 H1 L i ρ3 H3 fp3 acc ds F) (hL : H1 L = none) (hk : kSet k = true)
    (R4 : RepK (C.blk.plus fun a => a = L ∨ F a) k F1 m ρ4 σ2 H4 fp4) (e4 : Evo fp3 H3 fp4 H4) (r4 : Res (C.blk.plus fun a => a = L ∨ F a) k H3 H4 fp4 v y F1) (I5 : LcI C m (lvl k) σ2 fp1 H1 L i ρ4 H4 fp4 acc ds F) (hf : ∀ i ∈ vs, i ∉ C.io ∧ m[i]? = some .fz) (o : Off vs σ σ2) :
    LcI C m (lvl k) (wipe σ vs) fp1 H1 L (i + 1) (forget vs ρ4) (upd H4 L (.lst (acc ++ [v]))) fp4 (acc ++ [v]) (ds ++ [y]) (fun a => F a ∨ F1 a) := by
  have un : ∀ a, (fun a => a = L ∨ F a ∨ F1 a) a ↔ (fun a => a = L ∨ F a) a ∨ F1 a := fun a => or_assoc.symm
  have RR : Rep (C.plus fun a => a = L ∨ F a ∨ F1 a) m ρ4 σ2 H4 fp4 := by
    rw [← plus_plus' un]
    exact Rep.unblkP (C := C.plus fun a => a = L ∨ F a) (R4.plus hk r4)
  have fr := r4.fr hk
  have hid : ∀ b o, hide (Dn.own (C.plus fun a => a = L ∨ F a ∨ F1 a).M fp4) H4 b = some o → hide (Dn.own (C.plus fun a => a = L ∨ F a ∨ F1 a).M fp4) (upd H4 L (.lst (acc ++ [v]))) b = some o := fun b o e => by
    obtain ⟨n1, n2⟩ := hide_at e
    exact hide_of n1 (by rw [upd_ne fun z => n1 (.inl (.inr (.inl z)))]; exact n2)
  have nL : ∀ a, F1 a → a ≠ L := fun a z y => (fr a z).1 (.inl (.inr (.inl y)))
  have tb5 : Tb H4 (upd H4 L (.lst (acc ++ [v]))) := Tb.wr I5.at_ nt_lst fun φ z => nomatch z
  refine ⟨upd_same, by rw [List.length_append]; exact Nat.succ_le_succ I5.len, ?_, ?_, ?_, fun a z => ?_⟩
  · exact Rep.off (C := C.plus fun a => a = L ∨ F a ∨ F1 a) (RR.wrM (.inr (.inl rfl)) (And.intro (fun _ z => nomatch z) fun _ z => nomatch z) tb5) hf (o.symm.off off_wipe fun _ z => z)
  · refine ⟨fun b u q nt nb => ?_, I5.evo.new, fun b q => ?_, I5.evo.tb.trans tb5⟩
    · have nl : b ≠ L := fun z => by rw [z, hL] at q; cases q
      rw [upd_ne nl]
      exact I5.evo.keep b u q nt nb
    · by_cases z : b = L
      · rw [z, upd_same]; simp
      · rw [upd_ne z]; exact I5.evo.there b q
  · refine AllP.snoc (I4.all.mono fun w d F2 s h => h.keep (fun b u q nt => ?_) fun a u z q nt => ?_) ?_ fun a z y => (fr a y).1 (.inl (.inr (.inr z)))
    · refine hid b u ?_
      obtain ⟨n1, n2⟩ := hide_at (e4.fz I4.rep.ml b u q nt)
      obtain ⟨_, l2⟩ := hide_at q
      refine hide_of (fun z => ?_) n2
      rcases z with (z | z | z | z) | z
      · exact n1 (.inl (.inl z))
      · exact n1 (.inl (.inr (.inl z)))
      · exact n1 (.inl (.inr (.inr z)))
      · rw [(fr b z).2] at l2; cases l2
      · exact n1 (.inr z)
    · rw [upd_ne (I4.new a (s a z)).2]
      exact e4.keep a u q nt fun j x => I4.rep.msk j a x (.inr (.inr (s a z)))
    · refine (kv_ow (r4.kv hk)).keep (fun b u q _ => hid b u ?_) fun a u z q _ => by rw [upd_ne (nL a z)]; exact q
      obtain ⟨n1, n2⟩ := hide_at q
      refine hide_of (fun z => n1 ?_) n2
      rcases z with (z | z | z | z) | z
      · exact .inl (.inl (.inl z))
      · exact .inl (.inl (.inr (.inl z)))
      · exact .inl (.inl (.inr (.inr z)))
      · exact .inl (.inr z)
      · exact .inr z
  · rcases z with z | z
    · exact I4.new a z
    · exact ⟨I4.evo.none (fr a z).2, nL a z⟩
theorem lc_of {vs : List Nat} (hk : kSet k = true) (hf : fzSl C.io m vs = true) (hsub : ∀ i ∈ is, i ∈ vs) {σ : L2.St} {H : Hp} {Q : VK} (h : tE C m false (.new (lvl k + 1)) (lcE vs fi t g fe) σ H Q) :
    tLc (tI C m fi) (fun v σ H Q => ∃ F, tG (C.blk.plus F) m m is t v σ H Q) (fun σ H Q => ∃ F, tT (C.blk.plus F) m q1 g σ H Q) (fun σ H Q => ∃ F, tE (C.blk.plus F) m q2 k fe σ H Q) vs σ H Q := by
    obtain ⟨ρ, fp, R, p⟩ := h
    have hf := fzSl_at hf
    refine ⟨ρ, fp, R, p.bnd.imp fun xs ρ1 p1 J H1 fp1 R1 e1 ⟨G, Y, w, hG, hY⟩ L hL => ?_⟩
    by_cases hl : xs.length ≤ lineN
    · rw [if_pos hl] at p1
      have p1 := p1.rst.bnd
      -- what is wanted at the end
      let K : List D → Env → Prop := fun ys ρ' => ∀ v H' fp' F, RepK C (.new (lvl k + 1)) F m (restore vs ρ1 ρ') σ H' fp' → Evo fp H fp' H' → Qt false ρ (restore vs ρ1 ρ') fp fp' H H' → Res C (.new (lvl k + 1)) H H' fp' v (.list ys) F → Q v H'
      have p1 : Fin (fun ys ρ' => K ys ρ') (lcL vs t g fe xs (forget vs ρ1)) := p1
      refine lc_it (g := fun v σ H Q => ∃ x, tG (C.blk.plus x) m m is t v σ H Q) (tt := fun σ H Q => ∃ x, tT (C.blk.plus x) m q1 g σ H Q) (te := fun σ H Q => ∃ x, tE (C.blk.plus x) m q2 k fe σ H Q) (vs := vs) (σ := σ) (D := L) (Qd := fun H => Q (.ref L) H) w (fun i H' => ∃ ρ' fp' acc ds F, LcI C m (lvl k) (wipe σ vs) fp1 H1 L i ρ' H' fp' acc ds F ∧ Fin (fun ys ρ'' => K (ds ++ ys) ρ'') (lcL vs t g fe (xs.drop i) ρ')) ?_ (fun i H' _ ⟨ρ', fp', acc, ds, F, I, _⟩ => hG H' ((I.base hL R1.ml).trans hide_grow)) ?_ ?_
      · refine ⟨forget vs ρ1, fp1, [], [], fun _ => False, ⟨upd_same, Nat.le_refl _, ?_, Evo.grow (Gr.upd hL), fun _ z => z, fun _ z => z.elim⟩, p1⟩
        exact (R1.off hf off_wipe).fresh (Gr.upd hL) (fun a z => z.elim (fun y => by rw [y]; exact hL) fun y => y.elim) (fun a z => z.elim (fun y => by rw [y]; exact .lst upd_same) fun y => y.elim)
      · rintro i x H' H2 hlt ⟨ρ', fp', acc, ds, F, I, pf⟩ y
        obtain ⟨gr, d, hd, iv⟩ := hY i _ H' x H2 (I.base hL R1.ml) I.rep.live y
        rw [drop_cons hd] at pf
        have pf := Fin.bnd (x := t d) pf
        have I2 := I.step (I.rep.stay gr) (Evo.grow gr)
        refine ⟨fun a => a = L ∨ F a, ρ', fp', d, I2.rep.blk, iv, pf.pst.imp fun _ ρ2 pf2 σ2 fp2 R2 e2 o2 => ⟨(o2.wipe hsub).trans ?_, fun a => a = L ∨ F a, ρ2, fp2, R2, ?_⟩⟩
        · rw [off_wipe.wipe fun _ z => z]
        · have I3 := I2.step R2.unblkP e2
          have pf2 := Fin.bnd (x := g) pf2
          refine pf2.pst.imp fun b ρ3 pf3 H3 fp3 R3 e3 q3 => ?_
          have I4 := I3.step R3.unblkP e3
          cases b with
          | false =>
            rw [if_neg Bool.false_ne_true] at pf3
            exact iteF ⟨forget vs ρ3, fp3, acc, ds, F, I4.next hf ((off_wipe (σ := σ)).off o2 hsub), pf3⟩
          | true =>
            rw [if_pos rfl] at pf3
            have pf3 := Fin.bnd (x := fe) pf3
            refine iteT ⟨fun a => a = L ∨ F a, ρ3, fp3, R3, pf3.pst.imp fun y ρ4 pf4 v H4 fp4 F1 R4 e4 q4 r4 => ?_⟩
            have pf4 := Fin.bnd (x := fgM vs (lcL vs t g fe (xs.drop (i + 1)))) pf4
            have I5 := I4.step R4.rep.unblkP e4
            refine ⟨acc, I5.at_, ?_, forget vs ρ4, fp4, acc ++ [v], ds ++ [y], fun a => F a ∨ F1 a, ?_, ?_⟩
            · rw [← lineN_eq]
              exact Nat.lt_of_le_of_lt I5.len (Nat.lt_of_lt_of_le hlt hl)
            · exact I4.push hL hk R4 e4 r4 I5 hf ((off_wipe (σ := σ)).off o2 hsub)
            · exact pf4.imp fun ys ρ'' kk => by
                rw [List.append_assoc]
                exact kk
      · rintro H' ⟨ρ', fp', acc, ds, F, I, pf⟩
        rw [List.drop_eq_nil_of_le (Nat.le_refl _)] at pf
        have pf : K (ds ++ []) ρ' := pf
        rw [List.append_nil] at pf
        have out : ∀ a, (a = L ∨ F a) → H1 a = none := fun a z => z.elim (fun y => by rw [y]; exact hL) fun y => (I.new a y).1
        refine pf (.ref L) H' fp' (fun a => a = L ∨ F a) (I.rep.back (fun j hj d q => ?_) hf off_wipe) (e1.trans I.evo) (fun z => nomatch z) ⟨?_, fun a z y => ?_, fun a z => e1.none (out a z)⟩
        · obtain ⟨v, k1, k2⟩ := R1.slot j d q
          rw [(hf j hj).2] at k2
          exact ⟨v, k1, Is.up (I.base hL R1.ml) k2⟩
        · have al := I.all
          rw [own_plus] at al
          exact ⟨L, F, rfl, .inl ⟨acc, ds, I.at_, rfl, al⟩, fun z => (I.new L z).2 rfl, fun b => Iff.rfl⟩
        · rcases y with y | ⟨j, y⟩
          · exact R1.ml a y (out a z)
          · exact I.rep.msk j a y (.inr z)
    · rw [if_neg hl] at p1
      exact p1.elim
theorem pd_lc (A : Agr X C) (hi : PI X tg iter (tI C m fi)) (ok : BlkOk X.N X.env.scope scope own)
    (hg : ∀ s H Cc cl fp F, PG (bx X scope s H Cc cl fp) tg (tG (C.blk.plus F) m m is t)) (ht : ∀ s H Cc cl fp F, PTs (bx X scope s H Cc cl fp) ifs (tT (C.blk.plus F) m q1 g))
    (he : ∀ s H Cc cl fp F, PE (bx X scope s H Cc cl fp) elt (tE (C.blk.plus F) m q2 k fe)) (hk : kSet k = true := by rfl) (hf : fzSl C.io m (own.map (·.2)) = true := by rfl) (hsub : ∀ i ∈ is, i ∈ own.map (·.2) := by decide)
    (hs : ∀ x, foldedSetIterable iter X.env x = pure x := by intro _; rfl) (hc : X.calm = true := by rfl) :
    PE X (.ListComp elt [⟨tg, iter, ifs, 0⟩] scope pos) (tE C m false (.new (lvl k + 1)) (lcE (own.map (·.2)) fi t g fe)) :=
  PE.imp (pe_lc hc A.nd hi ok (fun s H Cc cl fp => PGall (hg s H Cc cl fp)) (fun s H Cc cl fp => PTsall (ht s H Cc cl fp)) (fun s H Cc cl fp => PE.all (he s H Cc cl fp)) hs) fun _ _ _ h => lc_of hk hf hsub h
/-- name = [..], the name a local -/
theorem sd_setLc {i : Nat} {y : Str} {py spos : Pos} {mb mc : List Mode} (A : Agr X C) (hy : X.N[i]? = some y) (hi : PI X tg iter (tI C m fi)) (ok : BlkOk X.N X.env.scope scope own)
    (hg : ∀ s H Cc cl fp F, PG (bx X scope s H Cc cl fp) tg (tG (C.blk.plus F) m m is t)) (ht : ∀ s H Cc cl fp F, PTs (bx X scope s H Cc cl fp) ifs (tT (C.blk.plus F) m q1 g))
    (he : ∀ s H Cc cl fp F, PE (bx X scope s H Cc cl fp) elt (tE (C.blk.plus F) m q2 k fe)) (hk : kSet k = true := by rfl) (hf : fzSl C.io m (own.map (·.2)) = true := by rfl) (hsub : ∀ i ∈ is, i ∈ own.map (·.2) := by decide) (ho : okSl C.io m [i] = true := by rfl)
    (hyl : X.env.scope.names.lookup y = some .local := by rfl) (hsw : swapsWith (.ListComp elt [⟨tg, iter, ifs, 0⟩] scope pos) (some (.Name y py)) spos.line X.env = pure true := by rfl) (hs : ∀ x, foldedSetIterable iter X.env x = pure x := by intro _; rfl) (hc : X.calm = true := by rfl) :
    PS X (.Assign [.Name y py] (.ListComp elt [⟨tg, iter, ifs, 0⟩] scope pos) spos) (tS C m (m.set i (.ow (lvl k + 1))) mb mc (asg i (lcE (own.map (·.2)) fi t g fe))) :=
  PS.imp (ps_setLc hc A.nd hy hyl hsw hi ok (fun s H Cc cl fp => PGall (hg s H Cc cl fp)) (fun s H Cc cl fp => PTsall (ht s H Cc cl fp)) (fun s H Cc cl fp => PE.all (he s H Cc cl fp)) hs) fun D σ H ⟨ρ, fp, R, p⟩ => lc_of hk hf hsub
    ⟨ρ, fp, R, p.bnd.imp fun d ρ1 p1 v H1 fp1 F R1 e1 q1 r1 => by
      obtain ⟨a1, a2⟩ := okSl_at ho i (List.mem_cons_self ..)
      obtain ⟨R2, e2⟩ := Rep.setR (k := .new (lvl k + 1)) rfl R1 e1 r1 a1 a2
      exact p1 _ H1 _ R2 e2⟩
end
end Dn

/-! DnL -/
set_option Elab.async false
set_option linter.all false
set_option maxRecDepth 100000
/-! Dn, part L: writes to owned things. -/
namespace Dn
open PySem PySem.Spec PyProof.Rows L2
variable [LamTab]
section
variable {C : Cd} {m : List Mode} {ρ : Env} {σ : L2.St} {fp : Fp} {H H' : Hp} {F1 F' : Ad} {i n : Nat} {v : V} {d d' : D}
/-- what stands in slot i is written -/
theorem Rep.wr3 (tb : Tb H H') (R : Rep (C.plus F1) m ρ σ H fp) (hm : m[i]? = some (.ow n)) (hσ : σ[i]? = some (some v)) (hF1 : ∀ a, F1 a → ¬ C.M a) (keep : ∀ b o, H b = some o → NT o → ¬ fp i b → H' b = some o) (there : ∀ b, H b ≠ none → H' b ≠ none)
    (hF : ∀ a, F' a → fp i a ∨ F1 a ∨ H a = none) (h : Ow C.K C.mg (hide (own C.M (put fp i F')) H') H' n v d' F') : Rep C m (ρ.set i (some d')) σ H' (put fp i F') where
  slot := fun j e q => by
    by_cases ej : j = i
    · subst ej
      have hl : j < ρ.length := by
        rw [R.len]
        refine Classical.byContradiction fun z => ?_
        rw [List.getElem?_eq_none (by omega)] at hσ
        cases hσ
      rw [List.getElem?_set_self hl] at q
      cases q
      refine ⟨v, hσ, ?_⟩
      rw [hm, put_same]
      exact h
    · rw [List.getElem?_set_ne (Ne.symm ej)] at q
      obtain ⟨w, h1, h2⟩ := R.slot j e q
      refine ⟨w, h1, ?_⟩
      rw [put_ne ej]
      refine h2.keep (fun b o z nt => ?_) fun a o z y nt => keep a o y nt fun x => ej (R.dis j i a z x)
      obtain ⟨n1, n2⟩ := hide_at z
      refine hide_of (fun y => ?_) (keep b o n2 nt fun y => n1 (.inr ⟨i, y⟩))
      rcases y with y | ⟨l, y⟩
      · exact n1 (.inl (.inl y))
      · rcases put_or y with x | x
        · rcases hF b x with x | x | x
          · exact n1 (.inr ⟨i, x⟩)
          · exact n1 (.inl (.inr x))
          · rw [n2] at x; cases x
        · exact n1 (.inr ⟨l, x⟩)
  len := by rw [List.length_set]; exact R.len
  dis := fun j l a p q => by
    have df : ∀ j, j ≠ i → fp j a → F' a → False := fun j nj x y => by
      rcases hF a y with z | z | z
      · exact nj (R.dis j i a x z)
      · exact R.msk j a x (.inr z)
      · exact R.live a (.inr ⟨j, x⟩) z
    by_cases e1 : j = i <;> by_cases e2 : l = i
    · rw [e1, e2]
    · subst e1
      rw [put_same] at p
      rw [put_ne e2] at q
      exact (df l e2 q p).elim
    · subst e2
      rw [put_same] at q
      rw [put_ne e1] at p
      exact (df j e1 p q).elim
    · rw [put_ne e1] at p
      rw [put_ne e2] at q
      exact R.dis j l a p q
  non := fun j nj a p => by
    by_cases e : j = i
    · subst e; exact nj ⟨n, hm⟩
    · rw [put_ne e] at p; exact R.non j nj a p
  msk := fun j a p z => by
    rcases put_or p with x | x
    · rcases hF a x with y | y | y
      · exact R.msk i a y (.inl z)
      · exact hF1 a y z
      · exact R.live a (.inl (.inl z)) y
    · exact R.msk j a x (.inl z)
  lv := fun a q => by
    rcases q with q | ⟨j, q⟩
    · obtain ⟨o, e, p⟩ := R.lv a (.inl (.inl q))
      exact ⟨o, keep a o e p.1 fun z => R.msk i a z (.inl q), p⟩
    · by_cases ej : j = i
      · subst ej; rw [put_same] at q; exact h.lv a q
      · rw [put_ne ej] at q
        obtain ⟨o, e, p⟩ := R.lv a (.inr ⟨j, q⟩)
        exact ⟨o, keep a o e p.1 fun z => ej (R.dis j i a q z), p⟩
  io := R.io
  tab := tb R.tab
  px := R.px.up fun b o z nt => by
    obtain ⟨n1, n2⟩ := hide_at z
    refine hide_of (fun y => ?_) (keep b o n2 nt fun y => n1 (.inr ⟨i, y⟩))
    rcases y with y | ⟨l, y⟩
    · exact n1 (.inl (.inl y))
    · rcases put_or y with x | x
      · rcases hF b x with x | x | x
        · exact n1 (.inr ⟨i, x⟩)
        · exact n1 (.inl (.inr x))
        · rw [n2] at x; cases x
      · exact n1 (.inr ⟨l, x⟩)
theorem evo_wr3 {fp0 : Fp} {H0 : Hp} (tb : Tb H H') (e : Evo fp0 H0 fp H) (hF1 : ∀ a, F1 a → H0 a = none) (keep : ∀ b o, H b = some o → NT o → ¬ fp i b → H' b = some o) (there : ∀ b, H b ≠ none → H' b ≠ none) (hF : ∀ a, F' a → fp i a ∨ F1 a ∨ H a = none) : Evo fp0 H0 (put fp i F') H' where
  tb := e.tb.trans tb
  keep := fun b o q nt nb => keep b o (e.keep b o q nt nb) nt fun z => by
    rcases e.new i b z with ⟨j, y⟩ | y
    · exact nb j y
    · rw [q] at y; cases y
  new := fun j a q => by
    rcases put_or q with x | x
    · rcases hF a x with y | y | y
      · exact e.new i a y
      · exact .inr (hF1 a y)
      · exact .inr (e.none y)
    · exact e.new j a x
  there := fun b q => there b (e.there b q)
theorem Rep.wr (tb : Tb H H') (R : Rep (C.plus F1) m ρ σ H fp) (hm : m[i]? = some (.ow n)) (hσ : σ[i]? = some (some v)) (hF1 : ∀ a, F1 a → ¬ C.M a) (keep : ∀ b o, H b = some o → NT o → ¬ fp i b → H' b = some o) (there : ∀ b, H b ≠ none → H' b ≠ none)
    (hF : ∀ a, F' a → fp i a ∨ F1 a) (h : Ow C.K C.mg (hide (own C.M (put fp i F')) H') H' n v d' F') : Rep C m (ρ.set i (some d')) σ H' (put fp i F') := Rep.wr3 tb R hm hσ hF1 keep there (fun a z => (hF a z).elim .inl fun y => .inr (.inl y)) h
theorem evo_wr {fp0 : Fp} {H0 : Hp} (tb : Tb H H') (e : Evo fp0 H0 fp H) (hF1 : ∀ a, F1 a → H0 a = none) (keep : ∀ b o, H b = some o → NT o → ¬ fp i b → H' b = some o) (there : ∀ b, H b ≠ none → H' b ≠ none) (hF : ∀ a, F' a → fp i a ∨ F1 a) : Evo fp0 H0 (put fp i F') H' := evo_wr3 tb e hF1 keep there fun a z => (hF a z).elim .inl fun y => .inr (.inl y)
/-- what a write changes, seen from what is frozen -/
theorem wr_grow (R : Rep (C.plus F1) m ρ σ H fp) (keep : ∀ b o, H b = some o → NT o → ¬ fp i b → H' b = some o) (hF : ∀ a, F' a → fp i a ∨ F1 a) : grow (hide (own (C.plus F1).M fp) H) (hide (own C.M (put fp i F')) H') := fun b o z nt => by
  obtain ⟨n1, n2⟩ := hide_at z
  refine hide_of (fun y => ?_) (keep b o n2 nt fun y => n1 (.inr ⟨i, y⟩))
  rcases y with y | ⟨l, y⟩
  · exact n1 (.inl (.inl y))
  · rcases put_or y with x | x
    · rcases hF b x with x | x
      · exact n1 (.inr ⟨i, x⟩)
      · exact n1 (.inl (.inr x))
    · exact n1 (.inr ⟨l, x⟩)
end
section
variable {P : V → D → Ad → Prop}
/-- one of many is another -/
theorem AllP.setP : ∀ {vs : List V} {ds : List D} {F : Ad} {k : Nat} {u : D}, AllP P vs ds F → ds[k]? = some u → ∃ w F1, vs[k]? = some w ∧ P w u F1 ∧ (∀ a, F1 a → F a) ∧
    ∀ (P' : V → D → Ad → Prop) (w' : V) (u' : D) (F1' : Ad), (∀ v d F2, (∀ a, F2 a → F a ∧ ¬ F1 a) → P v d F2 → P' v d F2) → P' w' u' F1' → (∀ a, F1' a → F a → F1 a) → AllP P' (vs.set k w') (ds.set k u') (fun a => (F a ∧ ¬ F1 a) ∨ F1' a)
  | [], [], _, _, _, _, e => by simp at e
  | v :: vs, d :: ds, F, 0, u, ⟨A1, A2, h1, h2, h3, h4⟩, e => by
    simp at e
    subst e
    refine ⟨v, A1, rfl, h1, fun a q => (h4 a).mpr (.inl q), fun P' w' u' F1' im hp dj => ?_⟩
    refine ⟨F1', A2, hp, h2.mono fun v d F2 s q => im v d F2 (fun a z => ⟨(h4 a).mpr (.inr (s a z)), fun y => h3 a y (s a z)⟩) q, fun a p q => h3 a (dj a p ((h4 a).mpr (.inr q))) q, fun a => ⟨fun z => ?_, fun z => ?_⟩⟩
    · rcases z with ⟨z, nz⟩ | z
      · exact .inr (((h4 a).mp z).elim (fun y => absurd y nz) fun y => y)
      · exact .inl z
    · rcases z with z | z
      · exact .inr z
      · exact .inl ⟨(h4 a).mpr (.inr z), fun y => h3 a y z⟩
  | v :: vs, d :: ds, F, k + 1, u, ⟨A1, A2, h1, h2, h3, h4⟩, e => by
    obtain ⟨w, F1, q1, q2, q3, q4⟩ := AllP.setP (k := k) (u := u) h2 (by simpa using e)
    refine ⟨w, F1, by simpa using q1, q2, fun a q => (h4 a).mpr (.inr (q3 a q)), fun P' w' u' F1' im hp dj => ?_⟩
    have r := q4 P' w' u' F1' (fun v d F2 s q => im v d F2 (fun a z => ⟨(h4 a).mpr (.inr (s a z).1), (s a z).2⟩) q) hp fun a p q => dj a p ((h4 a).mpr (.inr q))
    refine ⟨A1, _, im v d A1 (fun a z => ⟨(h4 a).mpr (.inl z), fun y => h3 a z (q3 a y)⟩) h1, r, fun a p q => ?_, fun a => ⟨fun z => ?_, fun z => ?_⟩⟩
    · rcases q with q | q
      · exact h3 a p q.1
      · exact h3 a p (q3 a (dj a q ((h4 a).mpr (.inl p))))
    · rcases z with ⟨z, nz⟩ | z
      · exact ((h4 a).mp z).elim .inl fun y => .inr (.inl ⟨y, nz⟩)
      · exact .inr (.inr z)
    · rcases z with z | z | z
      · exact .inl ⟨(h4 a).mpr (.inl z), fun y => h3 a z (q3 a y)⟩
      · exact .inl ⟨(h4 a).mpr (.inr z.1), z.2⟩
      · exact .inr z
end
section
variable {K : PySem.W.Frag} {mg : Str → Option Value} {G H : Hp} {n : Nat} {v : V} {F : Ad}
theorem Ow.lst {ds : List D} (h : Ow K mg G H (n + 1) v (.list ds) F) : ∃ a vs F0, v = .ref a ∧ H a = some (.lst vs) ∧ AllP (Ow K mg G H n) vs ds F0 ∧ ¬ F0 a ∧ ∀ b, F b ↔ b = a ∨ F0 b := by
  obtain ⟨a, F0, rfl, bx, na, hF⟩ := h
  rcases bx with ⟨vs, ds', h1, h2, h3⟩ | ⟨kvs, ds', h1, h2, h3⟩ | ⟨kvs, ds', h1, h2, h3⟩
  · cases h2; exact ⟨a, vs, F0, rfl, h1, h3, na, hF⟩
  · cases h2
  · cases h2
theorem Ow.mkL {a : Addr} {vs : List V} {ds : List D} {F0 : Ad} (h1 : H a = some (.lst vs)) (h3 : AllP (Ow K mg G H n) vs ds F0) (na : ¬ F0 a) : Ow K mg G H (n + 1) (.ref a) (.list ds) (fun b => b = a ∨ F0 b) :=
  ⟨a, F0, rfl, .inl ⟨vs, ds, h1, rfl, h3⟩, na, fun b => Iff.rfl⟩
theorem AllP.ixN {P : V → D → Ad → Prop} {vs : List V} {ds : List D} (h : AllP P vs ds F) {k : Int} {j : Nat} (e : L2.ixN ds.length k = some j) : L2.ixN vs.length k = some j ∧ ∃ u, ds[j]? = some u := by
  obtain ⟨_, h2, _⟩ := ixN_seq e
  exact ⟨by rw [h.length]; exact e, ds[j], List.getElem?_eq_getElem h2⟩
end
/-! ### what is computed -/
def isL : D → Bool
  | .list _ => true
  | _ => false
def chk (p : D → Bool) (i : Nat) : M Unit := fun ρ => match ρ[i]? with
  | some (some d) => if p d then .ok () ρ else .stuck
  | _ => .stuck
def updI (i : Nat) (f : D → Option D) : S := fun ρ => match ρ[i]? with
  | some (some d) => match f d with
    | some d' => .ok .next (ρ.set i (some d'))
    | none => .stuck
  | _ => .stuck
def appD (y : D) : D → Option D
  | .list xs => if xs.length < lineN then some (.list (xs ++ [y])) else none
  | _ => none
/-- x.append(e) -/
def appS (i : Nat) (e : M D) : S := bnd (chk isL i) fun _ => bnd e fun y => updI i (appD y)
def setD (k y : D) : D → Option D
  | .list xs => match k with
    | .int k => (ixN xs.length k).map fun j => .list (xs.set j y)
    | _ => none
  | _ => none
/-- x[k] = e -/
def setS (i : Nat) (k e : M D) : S := bnd e fun y => bnd (chk isL i) fun _ => bnd k fun k => updI i (setD k y)
def set2D (k1 k2 y : D) : D → Option D
  | .list xs => match k1 with
    | .int k1 => (ixN xs.length k1).bind fun j => (xs[j]?).bind fun u => (setD k2 y u).map fun u' => .list (xs.set j u')
    | _ => none
  | _ => none
def isLL (k1 : D) : D → Bool
  | .list xs => match k1 with
    | .int k1 => match (ixN xs.length k1).bind fun j => xs[j]? with
      | some (.list _) => true
      | _ => false
    | _ => false
  | _ => false
/-- x[k1][k2] = e -/
def setS2 (i : Nat) (k1 k2 e : M D) : S := bnd e fun y => bnd (chk isL i) fun _ => bnd k1 fun k1 => bnd (chk (isLL k1) i) fun _ => bnd k2 fun k2 => updI i (set2D k1 k2 y)
/-- x[k] op= e -/
def augS (i : Nat) (o : Op2) (k e : M D) : S := bnd (chk isL i) fun _ => bnd k fun k => bnd (bnd (var i) fun x => lft (itemD x k)) fun x => bnd e fun y => bnd (lft (o x y)) fun z => updI i (setD k z)
section
variable {α : Type} {C : Cd} {m : List Mode} {ρ : Env} {σ : L2.St} {fp : Fp} {H : Hp} {i : Nat}
theorem Pst.chk {k : Unit → Env → Prop} {p : D → Bool} (h : Pst C fp H k (Dn.chk p i ρ)) : ∃ d, ρ[i]? = some (some d) ∧ p d = true ∧ k () ρ := by
  unfold Dn.chk at h
  split at h
  · rename_i d e
    by_cases c : p d = true
    · rw [if_pos c] at h; exact ⟨d, e, c, h⟩
    · rw [if_neg c] at h; exact h.elim
  · exact h.elim
theorem Pst.updI {k : Flow → Env → Prop} {f : D → Option D} (h : Pst C fp H k (Dn.updI i f ρ)) : ∃ d d', ρ[i]? = some (some d) ∧ f d = some d' ∧ k .next (ρ.set i (some d')) := by
  unfold Dn.updI at h
  split at h
  · rename_i d e
    cases c : f d with
    | some d' => rw [c] at h; exact ⟨d, d', e, c, h⟩
    | none => rw [c] at h; exact h.elim
  · exact h.elim
end
section
variable {X : Cx} {C : Cd} {m mb mc : List Mode} {q q1 q2 : Bool} {k : Kd} {e o : Expr} {f f1 f2 : M D} {pos apos cpos p : Pos} {x : Str} {i n : Nat}
/-- x.append(e) -/
theorem sd_app (A : Agr X C) (hm : m[i]? = some (.ow (n + 1))) (he : PE X e (tE C m q k f)) (hN : X.N[i]? = some x) (hk : kSet k = true := by rfl) (hl : lvl k = n := by rfl) (hv : Vis X.env.scope x := by first | exact Or.inl rfl | exact Or.inr (Or.inl rfl) | exact Or.inr (Or.inr rfl))
    (hd : (x == ("__debug__" : Str)) = false := by decide) (hcd : (x == ("__classdict__" : Str)) = false := by decide)
    (hbase : attributeBase (.Name x p) "append" X.env (eval (.Name x p) X.env) = eval (.Name x p) X.env := by rfl)
    (hfew : ((backTo cpos (starEach (e :: []) X.env)).all (fun x => !x.1) && (backToKw cpos (keywordEach [] X.env)).all (fun x => x.1.isSome)
      && decide ((e :: []).length + ([] : List Keyword).length + (if ([] : List Keyword).isEmpty then 0 else 1) < 30)) = true := by rfl)
    (hline : (apos.endLine == cpos.line) = true := by rfl) (hs : starEach (e :: []) X.env = (false, eval e X.env) :: starEach [] X.env := by rfl) (hplain : (backTo cpos (starEach [] X.env)).any (·.1) = false := by rfl) :
    PS X (.Expr (.Call (.Attribute (.Name x p) "append" apos) [e] [] cpos) pos) (tS C m m mb mc (appS i f)) :=
  PS.imp (ps_expr (pe_bm PySem.F.plainAttrs_list PySem.F.slot_list_append PySem.F.type_list_append mt_append (pe_var hN hv hd hcd) (pa_cons he pa_nil hs) hbase hfew hline hs hplain) rfl) fun D σ H ⟨ρ, fp, R, pp⟩ => by
    obtain ⟨d0, h0, c0, pp⟩ := pp.bnd.chk
    obtain ⟨v, hσ, sl⟩ := R.slot i d0 h0
    refine ⟨v, hσ, ?_, ρ, fp, R, pp.bnd.imp fun y ρ1 p1 w H1 fp1 F1 R1 e1 q1 r1 => ?_⟩
    · rw [hm] at sl
      cases d0 with
      | list ds =>
        obtain ⟨a, vs, F0, rfl, h1, _⟩ := Ow.lst sl
        exact .inl ⟨rfl, vs, .of h1⟩
      | _ => cases c0
    · obtain ⟨d, d', hd1, hf, kk⟩ := p1.updI
      have R2 := R1.plus hk r1
      obtain ⟨v', hσ', sl⟩ := R2.slot i d hd1
      rw [hσ] at hσ'
      cases hσ'
      rw [hm] at sl
      cases d with
      | list ds =>
        simp only [appD] at hf
        split at hf
        · rename_i hlen
          cases hf
          obtain ⟨a, vs, F0, rfl, h1, h2, h3, h4⟩ := Ow.lst sl
          have fa : fp1 i a := (h4 a).mpr (.inl rfl)
          have keep : ∀ b o, H1 b = some o → NT o → ¬ fp1 i b → upd H1 a (.lst (vs ++ [w])) b = some o := fun b o z _ nb => by rw [upd_ne fun y => nb (by rw [y]; exact fa)]; exact z
          have there : ∀ b, H1 b ≠ none → upd H1 a (.lst (vs ++ [w])) b ≠ none := fun b z => by
            by_cases y : b = a
            · rw [y, upd_same]; exact fun x => nomatch x
            · rw [upd_ne y]; exact z
          have hF : ∀ b, (fun b => b = a ∨ (F0 b ∨ F1 b)) b → fp1 i b ∨ F1 b := fun b z => by
            rcases z with z | z | z
            · exact .inl (by rw [z]; exact fa)
            · exact .inl ((h4 b).mpr (.inr z))
            · exact .inr z
          have n1 : ∀ b, F1 b → b ≠ a := fun b z y => R2.msk i a fa (.inr (by rw [← y]; exact z))
          have gr := wr_grow R2 keep hF
          have fr := r1.fr hk
          have new : Ow C.K C.mg (hide (own C.M (put fp1 i fun b => b = a ∨ (F0 b ∨ F1 b))) (upd H1 a (.lst (vs ++ [w])))) (upd H1 a (.lst (vs ++ [w]))) (n + 1) (.ref a) (.list (ds ++ [y])) (fun b => b = a ∨ (F0 b ∨ F1 b)) := by
            refine Ow.mkL upd_same (AllP.snoc (h2.mono fun v d F2 s z => z.keep gr fun b o t y _ => ?_) ?_ fun b z t => ?_) fun z => ?_
            · rw [upd_ne fun x => h3 (by rw [← x]; exact s b t)]; exact y
            · have := kv_ow (r1.kv hk)
              rw [hl] at this
              exact this.keep gr fun b o z t _ => by rw [upd_ne (n1 b z)]; exact t
            · exact R2.msk i b ((h4 b).mpr (.inr z)) (.inr t)
            · rcases z with z | z
              · exact h3 z
              · exact n1 a z rfl
          refine ⟨a, vs, w, rfl, rfl, h1, by rw [h2.length, ← lineN_eq]; exact hlen, ?_⟩
          exact kk σ _ _ (Rep.wr (.wr h1 nt_lst fun _ z => nomatch z) R2 hm hσ (fun b z y => (fr b z).1 (.inl y)) keep there hF new) (evo_wr (.wr h1 nt_lst fun _ z => nomatch z) e1 (fun b z => (fr b z).2) keep there hF)
        · cases hf
      | _ => cases hf
/-- an owned list in slot i, and what a write to it needs -/
theorem wrL {ρ : Env} {σ : L2.St} {fp fp0 : Fp} {H H0 : Hp} {F1 : Ad} {ds : List D} (R : Rep (C.plus F1) m ρ σ H fp) (hm : m[i]? = some (.ow (n + 1))) (hρ : ρ[i]? = some (some (.list ds))) (e : Evo fp0 H0 fp H) (fr : ∀ a, F1 a → ¬ own C.M fp a ∧ H0 a = none) :
    ∃ a vs F0, σ[i]? = some (some (.ref a)) ∧ H a = some (.lst vs) ∧ AllP (Ow C.K C.mg (hide (own (C.plus F1).M fp) H) H n) vs ds F0 ∧ (∀ b, F0 b ∨ F1 b → b ≠ a) ∧ (∀ b, F0 b → fp i b) ∧
      ∀ (vs' : List V) (ds' : List D) (F' : Ad), (∀ b, F' b → F0 b ∨ F1 b) → (∀ G, grow (hide (own (C.plus F1).M fp) H) G → AllP (Ow C.K C.mg G (upd H a (.lst vs')) n) vs' ds' F') →
        ∃ fp', Rep C m (ρ.set i (some (.list ds'))) σ (upd H a (.lst vs')) fp' ∧ Evo fp0 H0 fp' (upd H a (.lst vs')) := by
  obtain ⟨v, hσ, sl⟩ := R.slot i _ hρ
  rw [hm] at sl
  obtain ⟨a, vs, F0, rfl, h1, h2, h3, h4⟩ := Ow.lst sl
  have fa : fp i a := (h4 a).mpr (.inl rfl)
  have na : ∀ b, F0 b ∨ F1 b → b ≠ a := fun b z y => by
    subst y
    exact z.elim h3 fun w => R.msk i b fa (.inr w)
  refine ⟨a, vs, F0, hσ, h1, h2, na, fun b z => (h4 b).mpr (.inr z), fun vs' ds' F' hs hall => ?_⟩
  have keep : ∀ b o, H b = some o → NT o → ¬ fp i b → upd H a (.lst vs') b = some o := fun b o z _ nb => by rw [upd_ne fun y => nb (by rw [y]; exact fa)]; exact z
  have there : ∀ b, H b ≠ none → upd H a (.lst vs') b ≠ none := fun b z => by
    by_cases y : b = a
    · rw [y, upd_same]; exact fun x => nomatch x
    · rw [upd_ne y]; exact z
  have hF : ∀ b, (fun b => b = a ∨ F' b) b → fp i b ∨ F1 b := fun b z => by
    rcases z with z | z
    · exact .inl (by rw [z]; exact fa)
    · exact (hs b z).elim (fun y => .inl ((h4 b).mpr (.inr y))) .inr
  have new := Ow.mkL (K := C.K) (mg := C.mg) (G := hide (own C.M (put fp i fun b => b = a ∨ F' b)) (upd H a (.lst vs'))) (n := n) (F0 := F') (upd_same (H := H) (a := a) (o := .lst vs')) (hall _ (wr_grow R keep hF)) fun z => na a (hs a z) rfl
  exact ⟨_, Rep.wr (.wr h1 nt_lst fun _ z => nomatch z) R hm hσ (fun b z y => (fr b z).1 (.inl y)) keep there hF new, evo_wr (.wr h1 nt_lst fun _ z => nomatch z) e (fun b z => (fr b z).2) keep there hF⟩
/-- x[k] = e -/
theorem sd_setL (A : Agr X C) (hm : m[i]? = some (.ow (n + 1))) (he : PE X e (tE C m q k f)) (ho : ∀ F, PE X o (tE (C.plus F) m q1 .fz f1)) (hN : X.N[i]? = some x) (hk : kSet k = true := by rfl) (hl : lvl k = n := by rfl) (hv : Vis X.env.scope x := by first | exact Or.inl rfl | exact Or.inr (Or.inl rfl) | exact Or.inr (Or.inr rfl))
    (hd : (x == ("__debug__" : Str)) = false := by decide) (hcd : (x == ("__classdict__" : Str)) = false := by decide)
    (ha : ∀ v, assign (.Subscript (.Name x p) o apos) X.env v = (do
      let ov ← holding [v] (eval (.Name x p) X.env)
      let iv ← holding [v, ov] (eval o X.env)
      standAt apos
      holding [v, ov, iv] (setItem ov iv v)
      release [v, ov, iv] []) := by intro _; rfl)
    (hs : swapsWithSole [.Subscript (.Name x p) o apos] e pos.line X.env = pure false := by rfl) (hw : swappedStores [.Subscript (.Name x p) o apos] e X.env = pure none := by rfl)
    (h1 : (assignEach [.Subscript (.Name x p) o apos] X.env).map (·.2) = [assign (.Subscript (.Name x p) o apos) X.env] := by rfl) :
    PS X (.Assign [.Subscript (.Name x p) o apos] e pos) (tS C m m mb mc (setS i f1 f)) :=
  PS.imp (ps_asg he (pg_sub (pe_var hN hv hd hcd) (PE.all ho) set_list ha) hs hw h1) fun D σ H ⟨ρ, fp, R, pp⟩ => by
    refine ⟨ρ, fp, R, pp.bnd.imp fun y ρ1 p1 w H1 fp1 F1 R1 e1 q1 r1 => ?_⟩
    have R1' := R1.plus hk r1
    have fr1 := r1.fr hk
    obtain ⟨d0, h0, c0, p1⟩ := p1.bnd.chk
    cases d0 with
    | list ds0 =>
      obtain ⟨a0, vs0, F00, hσ0, hH0, _⟩ := wrL R1' hm h0 e1 fr1
      refine ⟨.ref a0, hσ0, F1, ρ1, fp1, R1', (p1.later e1).bnd.plus.imp fun kd ρ2 p2 vk H2 fp2 F2 R2 e2 q2 r2 => ?_⟩
      obtain ⟨d, d', hd1, hf, kk⟩ := p2.updI
      have R2 := R2.rep
      cases d with
      | list ds =>
        cases kd with
        | int kk1 =>
          obtain ⟨j, hj, rfl⟩ := Option.map_eq_some_iff.mp hf
          have fr2 : ∀ b, F1 b → ¬ own C.M fp2 b ∧ H b = none := fun b z => ⟨fun y => ?_, (fr1 b z).2⟩
          · obtain ⟨a, vs, F0, hσ, hH, al, na, hF0, wr⟩ := wrL R2 hm hd1 (e1.trans e2) fr2
            rw [hσ0] at hσ
            cases hσ
            obtain ⟨hj2, u, hu⟩ := al.ixN hj
            obtain ⟨w0, F3, g1, g2, g3, g4⟩ := al.setP hu
            obtain ⟨fp3, R3, e3⟩ := wr (vs.set j w) (ds.set j y) (fun b => (F0 b ∧ ¬ F3 b) ∨ F1 b) (fun b z => z.elim (fun t => .inl t.1) .inr) fun G gr => g4 _ w y F1 (fun v d F4 s z => z.keep gr fun b o t yy _ => by rw [upd_ne (na b (.inl (s b t).1))]; exact yy) (by
              have z := kv_ow (r1.kv hk)
              rw [hl] at z
              exact z.keep ((e2.fz R1'.ml).trans gr) fun b o t yy nt => by
                rw [upd_ne (na b (.inr t))]
                exact e2.keep b o yy nt fun l u => R1'.msk l b u (.inr t)) fun b z t => (R2.msk i b (hF0 b t) (.inr z)).elim
            rw [r2.1.int_of]
            exact ⟨a0, vs, kk1, j, rfl, rfl, hH, hj2, kk σ _ fp3 R3 e3⟩
          · rcases y with y | ⟨l, y⟩
            · exact (fr1 b z).1 (.inl y)
            · exact R2.msk l b y (.inr z)
        | _ => cases hf
      | _ => cases hf
    | _ => cases c0
theorem set_self {α : Type} {xs : List α} {j : Nat} {w : α} (h : xs[j]? = some w) : xs.set j w = xs := by
  refine List.ext_getElem? fun l => ?_
  by_cases e : j = l
  · subst e
    rw [List.getElem?_set]
    have hl : j < xs.length := by
      refine Classical.byContradiction fun z => ?_
      rw [List.getElem?_eq_none (by omega)] at h
      cases h
    simp only [if_true, hl, h]
  · rw [List.getElem?_set_ne e]
/-- x[k1][k2] = e -/
theorem sd_setL2 {o2 : Expr} {p1 : Pos} (A : Agr X C) (hm : m[i]? = some (.ow (n + 2))) (he : PE X e (tE C m q k f)) (ho : ∀ F, PE X o (tE (C.plus F) m q1 .fz f1)) (ho2 : ∀ F, PE X o2 (tE (C.plus F) m true .fz f2)) (hN : X.N[i]? = some x) (hk : kSet k = true := by rfl) (hl : lvl k = n := by rfl)
    (hv : Vis X.env.scope x := by first | exact Or.inl rfl | exact Or.inr (Or.inl rfl) | exact Or.inr (Or.inr rfl)) (hd : (x == ("__debug__" : Str)) = false := by decide) (hcd : (x == ("__classdict__" : Str)) = false := by decide) (hpi : PlainIx o := by intro _ _; rfl)
    (ha : ∀ v, assign (.Subscript (.Subscript (.Name x p) o p1) o2 apos) X.env v = (do
      let ov ← holding [v] (eval (.Subscript (.Name x p) o p1) X.env)
      let iv ← holding [v, ov] (eval o2 X.env)
      standAt apos
      holding [v, ov, iv] (setItem ov iv v)
      release [v, ov, iv] []) := by intro _; rfl)
    (hs : swapsWithSole [.Subscript (.Subscript (.Name x p) o p1) o2 apos] e pos.line X.env = pure false := by rfl) (hw : swappedStores [.Subscript (.Subscript (.Name x p) o p1) o2 apos] e X.env = pure none := by rfl)
    (h1 : (assignEach [.Subscript (.Subscript (.Name x p) o p1) o2 apos] X.env).map (·.2) = [assign (.Subscript (.Subscript (.Name x p) o p1) o2 apos) X.env] := by rfl) :
    PS X (.Assign [.Subscript (.Subscript (.Name x p) o p1) o2 apos] e pos) (tS C m m mb mc (setS2 i f1 f2 f)) :=
  PS.imp (ps_asg he (pg_sub (pe_ix ix_list (pe_var hN hv hd hcd) (PE.all ho) hpi) (PE.all ho2) set_list ha) hs hw h1) fun D σ H ⟨ρ, fp, R, pp⟩ => by
    refine ⟨ρ, fp, R, pp.bnd.imp fun y ρ1 p1 w H1 fp1 F1 R1 e1 q1 r1 => ?_⟩
    have R1' := R1.plus hk r1
    have fr1 := r1.fr hk
    obtain ⟨d0, h0, c0, p1⟩ := p1.bnd.chk
    cases d0 with
    | list ds0 =>
      obtain ⟨a0, vs0, F00, hσ0, hH0, _⟩ := wrL R1' hm h0 e1 fr1
      refine ⟨.ref a0, hσ0, F1, ρ1, fp1, R1', (p1.later e1).bnd.plus.imp fun kd ρ2 p2 vk H2 fp2 F2 R2 e2 q2 r2 => ?_⟩
      obtain ⟨d, hd1, cc, p2⟩ := p2.bnd.chk
      have R2 := R2.rep
      have fr2 : ∀ b, F1 b → ¬ own C.M fp2 b ∧ H b = none := fun b z => ⟨fun y => by
        rcases y with y | ⟨l, y⟩
        · exact (fr1 b z).1 (.inl y)
        · exact R2.msk l b y (.inr z), (fr1 b z).2⟩
      cases d with
      | list ds =>
        cases kd with
        | int kk1 =>
          obtain ⟨v, hσ, sl⟩ := R2.slot i _ hd1
          rw [hσ0] at hσ
          cases hσ
          rw [hm] at sl
          obtain ⟨a, vs, F0, ea, hH, al, na, hF⟩ := Ow.lst sl
          cases ea
          cases hj : (L2.ixN ds.length kk1).bind fun j => ds[j]? with
          | none => simp only [isLL, hj] at cc; cases cc
          | some u =>
            cases u with
            | list es =>
              obtain ⟨j, hj1, hj2⟩ := Option.bind_eq_some_iff.mp hj
              obtain ⟨wv, F3, g1, g2, g3, g4⟩ := al.setP hj2
              obtain ⟨b, ws, F30, rfl, hb, al2, nb, hF3⟩ := Ow.lst g2
              rw [r2.1.int_of]
              refine ⟨a0, vs, kk1, .ref b, rfl, rfl, by rw [A.K]; exact .of hH, ?_, F1, ρ2, fp2, R2, (p2.later e2).bnd.plus.imp fun kd2 ρ3 p3 vk2 H3 fp3 F4 R3 e3 q3 r3 => ?_⟩
              · unfold L2.atI
                rw [al.length, hj1]
                exact g1
              · obtain ⟨rfl, rfl, gw⟩ := q3 rfl
                obtain ⟨d, d', hd2, hf, kk⟩ := p3.updI
                rw [hd1] at hd2
                cases hd2
                simp only [set2D, hj1, hj2, Option.bind_some] at hf
                obtain ⟨d2, hf2, rfl⟩ := Option.map_eq_some_iff.mp hf
                cases kd2 with
                | int kk2 =>
                  obtain ⟨j2, hj3, rfl⟩ := Option.map_eq_some_iff.mp hf2
                  obtain ⟨hj4, u2, hu2⟩ := al2.ixN hj3
                  obtain ⟨w0, F5, k1, k2, k3, k4⟩ := al2.setP hu2
                  rw [r3.1.int_of]
                  refine ⟨b, ws, kk2, j2, rfl, rfl, gw.g _ _ hb nt_lst, hj4, ?_⟩
                  have fa : fp3 i a0 := (hF a0).mpr (.inl rfl)
                  have fb : F3 b := (hF3 b).mpr (.inl rfl)
                  have fbi : fp3 i b := (hF b).mpr (.inr (g3 b fb))
                  have R3 := R3.rep
                  have R3s : Rep (C.plus F1) m ρ3 σ H3 fp3 := R3
                  have keep : ∀ c o, H3 c = some o → NT o → ¬ fp3 i c → upd H3 b (.lst (ws.set j2 w)) c = some o := fun c o z _ nc => by rw [upd_ne fun y => nc (by rw [y]; exact fbi)]; exact z
                  have there : ∀ c, H3 c ≠ none → upd H3 b (.lst (ws.set j2 w)) c ≠ none := fun c z => by
                    by_cases y : c = b
                    · rw [y, upd_same]; exact fun x => nomatch x
                    · rw [upd_ne y]; exact z
                  let F6 : Ad := fun c => (F30 c ∧ ¬ F5 c) ∨ F1 c
                  let F7 : Ad := fun c => (F0 c ∧ ¬ F3 c) ∨ (c = b ∨ F6 c)
                  have nF1 : ∀ c, F1 c → ¬ fp3 i c := fun c z y => R3.msk i c y (.inr z)
                  have hF7 : ∀ c, (fun c => c = a0 ∨ F7 c) c → fp3 i c ∨ F1 c := fun c z => by
                    rcases z with z | ⟨z, _⟩ | z | ⟨z, _⟩ | z
                    · exact .inl (by rw [z]; exact fa)
                    · exact .inl ((hF c).mpr (.inr z))
                    · exact .inl (by rw [z]; exact fbi)
                    · exact .inl ((hF c).mpr (.inr (g3 c ((hF3 c).mpr (.inr z)))))
                    · exact .inr z
                  have gr := wr_grow (i := i) (F' := fun c => c = a0 ∨ F7 c) R3s keep hF7
                  have g03 : grow (hide (own (C.plus F1).M fp3) H2) (hide (own (C.plus F1).M fp3) H3) := hide_up gw.g
                  have nab : a0 ≠ b := fun z => na (by rw [z]; exact g3 b fb)
                  have inner : Ow C.K C.mg (hide (own C.M (put fp3 i fun c => c = a0 ∨ F7 c)) (upd H3 b (.lst (ws.set j2 w)))) (upd H3 b (.lst (ws.set j2 w))) (n + 1) (.ref b) (.list (es.set j2 y)) (fun c => c = b ∨ F6 c) := by
                    refine Ow.mkL upd_same (k4 _ w y F1 (fun v d F8 s z => z.keep (g03.trans gr) fun c o t yy nt => ?_) ?_ fun c z t => (nF1 c z ((hF c).mpr (.inr (g3 c ((hF3 c).mpr (.inr t)))))).elim) fun z => ?_
                    · rw [upd_ne fun x => nb (by rw [← x]; exact (s c t).1)]
                      exact gw.g c o yy nt
                    · have z := kv_ow (r1.kv hk)
                      rw [hl] at z
                      exact z.keep (((e2.fz R1'.ml).trans g03).trans gr) fun c o t yy nt => by
                        rw [upd_ne fun x => nF1 c t (by rw [x]; exact fbi)]
                        exact gw.g c o (e2.keep c o yy nt fun l u => R1'.msk l c u (.inr t)) nt
                    · rcases z with ⟨z, _⟩ | z
                      · exact nb z
                      · exact nF1 b z fbi
                  have new : Ow C.K C.mg (hide (own C.M (put fp3 i fun c => c = a0 ∨ F7 c)) (upd H3 b (.lst (ws.set j2 w)))) (upd H3 b (.lst (ws.set j2 w))) (n + 2) (.ref a0) (.list (ds.set j (.list (es.set j2 y)))) (fun c => c = a0 ∨ F7 c) := by
                    have z := g4 (Ow C.K C.mg (hide (own C.M (put fp3 i fun c => c = a0 ∨ F7 c)) (upd H3 b (.lst (ws.set j2 w)))) (upd H3 b (.lst (ws.set j2 w))) (n + 1)) (.ref b) (.list (es.set j2 y)) (fun c => c = b ∨ F6 c) (fun v d F8 s z => z.keep (g03.trans gr) fun c o t yy nt => ?_) inner fun c z t => ?_
                    · rw [set_self g1] at z
                      refine Ow.mkL (by rw [upd_ne nab]; exact gw.g _ _ hH nt_lst) z fun t => ?_
                      rcases t with ⟨t, _⟩ | t | ⟨t, _⟩ | t
                      · exact na t
                      · exact nab t
                      · exact na (g3 _ ((hF3 _).mpr (.inr t)))
                      · exact nF1 _ t fa
                    · rw [upd_ne fun x => (s c t).2 (by rw [x]; exact fb)]
                      exact gw.g c o yy nt
                    · rcases z with z | ⟨z, _⟩ | z
                      · rw [z]; exact fb
                      · exact (hF3 c).mpr (.inr z)
                      · exact (nF1 c z ((hF c).mpr (.inr t))).elim
                  exact kk σ _ _ (Rep.wr (.wr (gw.g _ _ hb nt_lst) nt_lst fun _ z => nomatch z) R3s hm hσ0 (fun c z t => (fr2 c z).1 (.inl t)) keep there hF7 new) (evo_wr (.wr (gw.g _ _ hb nt_lst) nt_lst fun _ z => nomatch z) (e1.trans (e2.trans e3)) (fun c z => (fr2 c z).2) keep there hF7)
                | _ => cases hf2
            | _ => simp only [isLL, hj] at cc; cases cc
        | _ => simp only [isLL] at cc; cases cc
      | _ => simp only [isLL] at cc; cases cc
    | _ => cases c0
/-- o[i] of a list -/
theorem get_list : PGet X (rIxL X.K) := by
  intro pins s σ H o i ov iv Q I ro ri h
  obtain ⟨pp, xs, kk, z, rfl, rfl, hq, he, q⟩ := h
  cases ro
  obtain ⟨t, rfl⟩ := ri
  obtain ⟨its, r, pl, hz⟩ := I.list hq
  obtain ⟨j, h1, h2, h3, h4, h5⟩ := atI_get he
  obtain ⟨w, ew, rr⟩ := r.get h2
  have hl := r.length
  have hn := line63
  by_cases h0 : 0 ≤ kk
  · refine wpAny_getItem_list pl.isList h0 (by omega) (x := w) ?_ ⟨z, H, I, rr, q⟩
    rw [seqIndex_of h0 h5] at h1
    rw [Option.some.inj h1]
    simpa using ew
  · refine wpAny_getItem_list_neg pl.isList (by omega) (by rw [List.size_toArray]; omega) (by omega) (x := w) ?_ ⟨z, H, I, rr, q⟩
    rw [seqIndex_neg (by omega) h4] at h1
    rw [List.size_toArray, ← hl, Option.some.inj h1]
    simpa using ew
/-- x[k] op= e (frozen items) -/
theorem sd_augL {op : Operator} {r : R2} {g : Op2} (A : Agr X C) (hg : OpD C.K C.mg r g) (hr : OpR X (inplaceOp op) r) (hm : m[i]? = some (.ow 1)) (ho : PE X o (tE C m true .fz f1)) (he : PE X e (tE C m true .fz f)) (hN : X.N[i]? = some x)
    (hv : Vis X.env.scope x := by first | exact Or.inl rfl | exact Or.inr (Or.inl rfl) | exact Or.inr (Or.inr rfl)) (hd : (x == ("__debug__" : Str)) = false := by decide) (hcd : (x == ("__classdict__" : Str)) = false := by decide)
    (ha : ∀ ov iv new, augStore o ov iv new = (do holding [new, ov, iv] (setItem ov iv new); release [new, ov, iv] []; pure .next) := by intros; rfl) : PS X (.AugAssign (.Subscript (.Name x p) o apos) op e pos) (tS C m m mb mc (Dn.augS i g f1 f)) :=
  PS.imp (ps_augS (pe_var hN hv hd hcd) ho get_list he (fun pins s σ H x y v u Q I r1 r2 h => hr pins s σ H x y v u Q I r1 r2 h) set_list ha) fun D σ H ⟨ρ, fp, R, pp⟩ => by
    obtain ⟨d0, h0, c0, pp⟩ := pp.bnd.chk
    cases d0 with
    | list ds =>
      obtain ⟨a, vs, F0, hσ, hH, al, na, hF, wr⟩ := wrL (F1 := fun _ => False) (R.plus0 fun _ z => z) hm h0 Evo.refl fun _ z => z.elim
      refine ⟨.ref a, hσ, ρ, fp, R, pp.bnd.imp fun kd ρ1 p1 v1 H1 fp1 F1 R1 e1 q1 r1 => ?_⟩
      obtain ⟨rfl, rfl, g1⟩ := q1 rfl
      have p1 := p1.bnd.bnd
      unfold var at p1
      rw [h0] at p1
      obtain ⟨u, hu, p1⟩ := p1.lft
      cases kd with
      | int kk =>
        obtain ⟨v, F3, g3, g4, _⟩ := al.atI hu
        rw [r1.1.int_of]
        refine ⟨a, vs, kk, v, rfl, rfl, .of (g1.g _ _ hH nt_lst), g3, ρ1, fp1, R1.rep, (p1.later e1).bnd.imp fun y ρ2 p2 v2 H2 fp2 F2 R2 e2 q2 r2 => ?_⟩
        obtain ⟨rfl, rfl, g2⟩ := q2 rfl
        obtain ⟨z, hz, p2⟩ := p2.bnd.lft
        obtain ⟨d, d', hd1, hf, kk2⟩ := p2.updI
        rw [h0] at hd1
        cases hd1
        obtain ⟨j, hj, rfl⟩ := Option.map_eq_some_iff.mp hf
        have iv : Is C.K C.mg (hide (own C.M fp2) H2) v u := g4.1.up ((hide_up (g1.trans g2).g).trans (hide_less fun a z => z.elim (fun y => .inl (.inl y)) .inr))
        refine hg (own C.M fp2) H2 v v2 u y z _ R2.rep.live iv r2.1 hz fun w H3 g5 iw => ?_
        have R3 := R2.rep.stay g5
        obtain ⟨a', vs', F0', hσ', hH', al', na', hF', wr'⟩ := wrL (F1 := fun _ => False) (R3.plus0 fun _ z => z) hm h0 ((e1.trans e2).mono g5) fun _ z => z.elim
        rw [hσ] at hσ'
        cases hσ'
        obtain ⟨hj2, u2, hu2⟩ := al'.ixN hj
        obtain ⟨w0, F5, k1, k2, k3, k4⟩ := al'.setP hu2
        obtain ⟨fp3, R4, e4⟩ := wr' (vs'.set j w) (ds.set j z) (fun b => (F0' b ∧ ¬ F5 b) ∨ False) (fun b t => t.elim (fun y => .inl y.1) .inr) fun G gr => k4 _ w z (fun _ => False) (fun v d F8 s t => t.keep gr fun c o x yy _ => by
          rw [upd_ne (na' c (.inl (s c x).1))]; exact yy) ⟨iw.up ((hide_less fun a t => t.elim (fun y => y.elim .inl fun x => x.elim) .inr).trans gr), fun _ t => t⟩ fun _ t => t.elim
        exact ⟨a, vs', kk, j, rfl, rfl, hH', hj2, kk2 σ _ fp3 R4 e4⟩
      | _ => cases hu
    | _ => cases c0
/-! ### methods that give a value -/
def isO (p : D → Option D) (d : D) : Bool := (p d).isSome
/-- the value that g tells, then the slot is written by h -/
def popM (i : Nat) (g h : D → Option D) : M D := fun ρ => match ρ[i]? with
  | some (some d) => match g d, h d with
    | some u, some d' => .ok u (ρ.set i (some d'))
    | _, _ => .stuck
  | _ => .stuck
def lastD : D → Option D
  | .list xs => xs[xs.length - 1]?
  | _ => none
def cutLastD : D → Option D
  | .list xs => some (.list xs.dropLast)
  | _ => none
def pickD (k : D) : D → Option D
  | .list xs => match k with
    | .int k => L2.atI xs k
    | _ => none
  | _ => none
def eraseD (k : D) : D → Option D
  | .list xs => match k with
    | .int k => (L2.ixN xs.length k).map fun j => .list (xs.eraseIdx j)
    | _ => none
  | _ => none
/-- x.pop(), x.pop(k) -/
def popE (i : Nat) : M D := bnd (chk isL i) fun _ => popM i lastD cutLastD
def popAtE (i : Nat) (k : M D) : M D := bnd (chk isL i) fun _ => bnd k fun k => popM i (pickD k) (eraseD k)
end
end Dn

/-! DnM -/
set_option Elab.async false
set_option linter.all false
set_option maxRecDepth 100000
/-! Dn, part M: dicts. -/
namespace Dn
open PySem PySem.Spec PyProof.Rows L2
variable [LamTab]
/-! ### what is computed -/
def keyS : D → D → Bool
  | .int i, .int j => decide (i = j)
  | .str x, .str y => decide (x = y)
  | _, _ => false
def keysB : List D → List D → Bool
  | [], [] => true
  | x :: xs, y :: ys => keyS x y && keysB xs ys
  | _, _ => false
def keyB : D → D → Bool
  | .tuple xs, .tuple ys => keysB xs ys
  | x, y => keyS x y
def valD (kvs : List (D × D)) (k : D) : Option D := (kvs.find? fun p => keyB p.1 k).map (·.2)
def putD (kvs : List (D × D)) (k y : D) : List (D × D) := if kvs.any (fun p => keyB p.1 k) then kvs.map (fun p => if keyB p.1 k then (p.1, y) else p) else kvs ++ [(k, y)]
/-- a key that is an int or a text -/
def keyOk : D → Bool
  | .int _ => true
  | .str _ => true
  | _ => false
/-- ints and texts as keys -/
def plainK : List (D × D) → Bool
  | (.none, _) :: _ => false
  | (.bool _, _) :: _ => false
  | _ => true
def dgetD : Op2
  | .dict kvs, k => if keyOk k && plainK kvs then valD kvs k else none
  | _, _ => none
def dputD (k y : D) : D → Option D
  | .dict kvs => if keyOk k && (plainK kvs && decide (kvs.length < lineN)) then some (.dict (putD kvs k y)) else none
  | _ => none
def isKD : D → Bool
  | .dict kvs => plainK kvs
  | _ => false
/-- x[k] = e -/
def putS (i : Nat) (k e : M D) : S := bnd e fun y => bnd (chk isKD i) fun _ => bnd k fun k => updI i (dputD k y)
def pairsM : List (M D × M D) → M (List (D × D))
  | [] => ret []
  | (k, v) :: r => bnd k fun k => bnd v fun v => bnd (pairsM r) fun kvs => ret ((k, v) :: kvs)
/-- {k: v, ..} -/
def dispE (ps : List (M D × M D)) : M D := bnd (pairsM ps) fun kvs => if kvs.all (fun p => keyOk p.1) && decide (kvs.length ≤ 15) then ret (.dict (kvs.foldl (fun acc p => putD acc p.1 p.2) [])) else stk
def inDict : Op2 := fun k d => match d with
  | .dict kvs => if keyOk k && plainK kvs then some (.bool (valD kvs k).isSome) else none
  | _ => none
def notInDict : Op2 := fun k d => match d with
  | .dict kvs => if keyOk k && plainK kvs then some (.bool (!(valD kvs k).isSome)) else none
  | _ => none
/-! ### pairs -/
section
variable {κ : Type} [DecidableEq κ] {enc : κ → D} {K : PySem.W.Frag} {mg : Str → Option Value} {G : Hp}
def Enc (enc : κ → D) : Prop := ∀ a b, keyB (enc a) (enc b) = decide (a = b)
def zD (enc : κ → D) (kvs : List (κ × V)) (ds : List D) : List (D × D) := (kvs.map fun p => enc p.1).zip ds
theorem val_of (he : Enc enc) : ∀ {kvs : List (κ × V)} {ds : List D} {k : κ} {u : D}, IsL K mg G (kvs.map (·.2)) ds → valD (zD enc kvs ds) (enc k) = some u → ∃ v, valV kvs k = some v ∧ Is K mg G v u
  | [], _, _, _, _, e => by simp [zD, valD] at e
  | p :: kvs, d :: ds, k, u, .cons a r, e => by
    by_cases h : p.1 = k
    · have : keyB (enc p.1) (enc k) = true := by rw [he, h]; simp
      simp only [zD, valD, List.map_cons, List.zip_cons_cons, List.find?_cons, this, Option.map_some] at e
      cases e
      exact ⟨p.2, valV_pos h, a⟩
    · have : keyB (enc p.1) (enc k) = false := by rw [he]; simp [h]
      simp only [zD, valD, List.map_cons, List.zip_cons_cons, List.find?_cons, this] at e
      obtain ⟨v, h1, h2⟩ := val_of he r e
      exact ⟨v, by rw [valV_neg h]; exact h1, h2⟩
theorem any_of (he : Enc enc) : ∀ {kvs : List (κ × V)} {ds : List D} {k : κ}, kvs.length = ds.length → (zD enc kvs ds).any (fun p => keyB p.1 (enc k)) = kvs.any fun kv => decide (kv.1 = k)
  | [], _, _, _ => rfl
  | p :: kvs, d :: ds, k, e => by
    have r := any_of he (k := k) (kvs := kvs) (ds := ds) (by simpa using e)
    simp only [zD, List.map_cons, List.zip_cons_cons, List.any_cons] at r ⊢
    rw [r, he p.1 k]
  | _ :: _, [], _, e => by simp at e
theorem some_of (he : Enc enc) {kvs : List (κ × V)} {ds : List D} {k : κ} (e : kvs.length = ds.length) : (valD (zD enc kvs ds) (enc k)).isSome = (valV kvs k).isSome := by
  rw [← valV_any, ← any_of he e]
  unfold valD
  rw [Option.isSome_map, Bool.eq_iff_iff, List.find?_isSome, List.any_eq_true]
theorem put_of (he : Enc enc) {kvs : List (κ × V)} {ds : List D} {k : κ} {v : V} {d : D} (r : IsL K mg G (kvs.map (·.2)) ds) (a : Is K mg G v d) : ∃ ds', IsL K mg G ((putK kvs k v).map (·.2)) ds' ∧ zD enc (putK kvs k v) ds' = putD (zD enc kvs ds) (enc k) d := by
  have hl := r.length
  rw [List.length_map] at hl
  unfold putK putD
  rw [any_of he hl]
  by_cases c : (kvs.any fun kv => decide (kv.1 = k)) = true
  · rw [if_pos c, if_pos c]
    clear c
    induction kvs generalizing ds with
    | nil => cases r; exact ⟨[], .nil, rfl⟩
    | cons p kvs ih =>
      cases r with
      | @cons _ _ d0 ds0 b r =>
        obtain ⟨ds', h1, h2⟩ := ih r (by simpa using hl)
        by_cases h : p.1 = k
        · have hk : keyB (enc p.1) (enc k) = true := by rw [he, h]; simp
          refine ⟨d :: ds', ?_, ?_⟩
          · simp only [List.map_cons, h, if_true]
            exact .cons a h1
          · simp only [zD, List.map_cons, List.zip_cons_cons, hk, if_true] at h2 ⊢
            rw [if_pos h, ← h2]
        · have hk : keyB (enc p.1) (enc k) = false := by rw [he]; simp [h]
          refine ⟨d0 :: ds', ?_, ?_⟩
          · simp only [List.map_cons, h, if_false]
            exact .cons b h1
          · simp only [zD, List.map_cons, List.zip_cons_cons, hk] at h2 ⊢
            rw [if_neg h, ← h2]
            rfl
  · rw [if_neg c, if_neg c]
    refine ⟨ds ++ [d], by rw [List.map_append]; exact r.append (.cons a .nil), ?_⟩
    unfold zD
    rw [List.map_append, List.zip_append (by rw [List.length_map]; exact hl)]
    rfl
theorem zD_len {kvs : List (κ × V)} {ds : List D} (r : IsL K mg G (kvs.map (·.2)) ds) : (zD enc kvs ds).length = kvs.length := by
  have hl := r.length
  rw [List.length_map] at hl
  unfold zD
  rw [List.length_zip, List.length_map, hl, Nat.min_self]
theorem enc_kD : Enc kD := fun a b => by
  cases a with
  | inl i => cases b with
    | inl j => simp [keyB, keyS, kD]
    | inr y => simp [keyB, keyS, kD]
  | inr x => cases b with
    | inl j => simp [keyB, keyS, kD]
    | inr y => simp [keyB, keyS, kD]
theorem keyOk_at {k : D} (h : keyOk k = true) : ∃ key, k = kD key := by
  cases k with
  | int i => exact ⟨.inl i, rfl⟩
  | str x => exact ⟨.inr x, rfl⟩
  | _ => cases h
theorem Is.key {v : V} {k : Key} (h : Is K mg G v (kD k)) : v = kV k := by
  cases k with
  | inl i => exact h.int_of
  | inr x => exact h.str_of
end
theorem Vw.dict {K : PySem.W.Frag} {mg : Str → Option Value} {O : Ad} {H : Hp} {x : V} {kvs : List (D × D)} (h : Vw K mg O H x (.dict kvs)) (p : plainK kvs = true) : ∃ a kv ds, x = .ref a ∧ H a = some (.dK kv) ∧ kvs = zD kD kv ds ∧ IsL K mg (hide O H) (kv.map (·.2)) ds := by
  rcases h with h | ⟨a, rfl, h⟩
  · cases h with
    | dK h1 h2 => exact ⟨_, _, _, rfl, hide_raw h1, rfl, h2⟩
    | dT h1 h2 => cases p
    | fn h1 => cases p
    | lam _ _ _ => cases p
  · rcases h with ⟨vs, ds', h1, h2, h3⟩ | ⟨kv, ds', h1, h2, h3⟩ | ⟨kvs, ds', h1, h2, h3⟩
    · cases h2
    · cases h2
      exact ⟨a, kv, ds', rfl, h1, rfl, h3⟩
    · cases h2; cases p
section
variable {X : Cx} {C : Cd} {m mb mc : List Mode} {q q1 q2 : Bool} {k ka : Kd} {e o ix : Expr} {f fa fb : M D} {pos pos' apos cpos p : Pos} {x : Str} {i n : Nat}
theorem hu1 {A : Around} (h : A.units + 65 < cLine) : A.units + 1 < cLine := by omega
/-- d[k] -/
theorem pd_getD (A : Agr X C) (ha : PE X o (tE C m q ka fa)) (hb : PE X ix (tE C m true .fz fb)) (hk : vwK ka = true := by rfl) (hs : NoSl ix := by intro _ _; rfl) : PE X (.Subscript o ix pos) (tE C m q .fz (bin dgetD fa fb)) :=
  PE.imp (pe_dget (hu1 A.hu) ha hb hs) fun σ H Q ⟨ρ, fp, R, p⟩ => by
    refine ⟨ρ, fp, R, p.bnd.imp fun x ρ1 p1 v1 H1 fp1 F1 R1 e1 q1 r1 => ⟨ρ1, fp1, R1.rep, (p1.later e1).bnd.imp fun y ρ2 p2 v2 H2 fp2 F2 R2 e2 q2 r2 => ?_⟩⟩
    obtain ⟨u, hu, kk⟩ := p2.lft
    obtain ⟨rfl, rfl, g⟩ := q2 rfl
    have vw : Vw C.K C.mg (own C.M fp2) H2 v1 x := by
      rcases r1.vw hk R1.rep with z | ⟨a, rfl, z⟩
      · exact .inl (z.up (hide_up g.g))
      · exact .inr ⟨a, rfl, z.mono (fun o y nt => g.g _ _ y nt) fun vs ds y => y.up (hide_up g.g)⟩
    cases x with
    | dict kvs =>
      simp only [dgetD] at hu
      split at hu
      · rename_i ho
        rw [Bool.and_eq_true] at ho
        obtain ⟨key, rfl⟩ := keyOk_at ho.1
        obtain ⟨a, kv, ds, rfl, h1, rfl, h3⟩ := vw.dict ho.2
        obtain ⟨v, h4, h5⟩ := val_of enc_kD h3 hu
        rw [r2.1.key]
        exact ⟨a, v, rfl, by rw [← h4]; exact DGet.k h1, kk v H2 fp2 (fun _ => False) R2.rep (e1.trans e2) (fun z => ⟨(q1 z).1, (q1 z).2.1, (q1 z).2.2.trans g⟩) ⟨h5, fun _ z => z⟩⟩
      · cases hu
    | _ => cases hu
theorem Ow.dk {K : PySem.W.Frag} {mg : Str → Option Value} {G H : Hp} {v : V} {F : Ad} {kvs : List (D × D)} (h : Ow K mg G H (n + 1) v (.dict kvs) F) (p : plainK kvs = true) : ∃ a kv ds F0, v = .ref a ∧ H a = some (.dK kv) ∧ kvs = zD kD kv ds ∧ AllP (Ow K mg G H n) (kv.map (·.2)) ds F0 ∧ ¬ F0 a ∧ ∀ b, F b ↔ b = a ∨ F0 b := by
  obtain ⟨a, F0, rfl, bx, na, hF⟩ := h
  rcases bx with ⟨vs, ds', h1, h2, h3⟩ | ⟨kv, ds', h1, h2, h3⟩ | ⟨kvs, ds', h1, h2, h3⟩
  · cases h2
  · cases h2; exact ⟨a, kv, ds', F0, rfl, h1, rfl, h3, na, hF⟩
  · cases h2; cases p
/-- x[k] = e, x a dict of frozen things -/
theorem sd_putD (A : Agr X C) (hm : m[i]? = some (.ow 1)) (he : PE X e (tE C m q .fz f)) (ho : PE X ix (tE C m true .fz fb)) (hN : X.N[i]? = some x)
    (hv : Vis X.env.scope x := by first | exact Or.inl rfl | exact Or.inr (Or.inl rfl) | exact Or.inr (Or.inr rfl)) (hd : (x == ("__debug__" : Str)) = false := by decide) (hcd : (x == ("__classdict__" : Str)) = false := by decide)
    (hs : swapsWith e (some (.Subscript (.Name x p) ix pos')) pos.line X.env = pure false := by rfl) : PS X (.Assign [.Subscript (.Name x p) ix pos'] e pos) (tS C m m mb mc (putS i fb f)) :=
  PS.imp (ps_dput (hu1 A.hu) (pe_var hN hv hd hcd) ho he hs) fun D σ H ⟨ρ, fp, R, pp⟩ => by
    refine ⟨ρ, fp, R, pp.bnd.imp fun y ρ1 p1 w H1 fp1 F1 R1 e1 q1 r1 => ?_⟩
    have R1 := R1.rep
    obtain ⟨d0, h0, c0, p1⟩ := p1.bnd.chk
    obtain ⟨v, hσ, sl⟩ := R1.slot i _ h0
    refine ⟨v, hσ, ρ1, fp1, R1, (p1.later e1).bnd.imp fun kd ρ2 p2 vk H2 fp2 F2 R2 e2 q2 r2 => ?_⟩
    obtain ⟨rfl, rfl, g⟩ := q2 rfl
    obtain ⟨d, d', hd1, hf, kk⟩ := p2.updI
    rw [h0] at hd1
    cases hd1
    have R2 := R2.rep
    obtain ⟨v', hσ', sl⟩ := R2.slot i _ h0
    rw [hσ] at hσ'
    cases hσ'
    rw [hm] at sl
    cases d0 with
    | dict kvs =>
      simp only [dputD] at hf
      split at hf
      · rename_i hc
        cases hf
        simp only [Bool.and_eq_true, decide_eq_true_eq] at hc
        obtain ⟨hc1, hc2, hc3⟩ := hc
        obtain ⟨key, rfl⟩ := keyOk_at hc1
        obtain ⟨a, kv, ds, F0, rfl, h1, rfl, h3, na, hF⟩ := Ow.dk sl hc2
        have il := h3.is
        have fa : fp2 i a := (hF a).mpr (.inl rfl)
        rw [r2.1.key]
        refine ⟨a, _, rfl, .k h1 ?_, ?_⟩
        · rw [zD_len il.1] at hc3
          rw [← lineN_eq]
          exact hc3
        · have tb : Tb H2 (upd H2 a (.dK (putK kv key w))) := .wr h1 nt_dK fun _ z => nomatch z
          have keep : ∀ b o, H2 b = some o → NT o → ¬ fp2 i b → upd H2 a (.dK (putK kv key w)) b = some o := fun b o z _ nb => by rw [upd_ne fun y => nb (by rw [y]; exact fa)]; exact z
          have there : ∀ b, H2 b ≠ none → upd H2 a (.dK (putK kv key w)) b ≠ none := fun b z => by
            by_cases y : b = a
            · rw [y, upd_same]; exact fun x => nomatch x
            · rw [upd_ne y]; exact z
          have hFF : ∀ b, (fun b => b = a ∨ False) b → fp2 i b ∨ (fun _ => False) b := fun b z => .inl (by rcases z with z | z; rw [z]; exact fa; exact z.elim)
          have R2' : Rep (C.plus fun _ => False) m ρ2 σ H2 fp2 := R2.plus0 fun _ z => z
          have gr := (hide_less (O := own C.M fp2) (O' := own (C.plus fun _ => False).M fp2) (H := H2) fun a t => t.elim (fun y => y.elim .inl fun x => x.elim) .inr).trans (wr_grow (i := i) (F' := fun b => b = a ∨ False) R2' keep hFF)
          have iw : Is C.K C.mg (hide (own C.M fp2) H2) w y := r1.1.up (hide_up g.g)
          obtain ⟨ds', i1, i2⟩ := put_of enc_kD (k := key) (il.1.up gr) (iw.up gr)
          rw [← i2] at kk
          have new : Ow C.K C.mg (hide (own C.M (put fp2 i fun b => b = a ∨ False)) (upd H2 a (.dK (putK kv key w)))) (upd H2 a (.dK (putK kv key w))) 1 (.ref a) (.dict (zD kD (putK kv key w) ds')) (fun b => b = a ∨ False) :=
            ⟨a, fun _ => False, rfl, .inr (.inl ⟨_, ds', upd_same, rfl, AllP.of_is i1⟩), fun z => z, fun b => Iff.rfl⟩
          exact kk σ _ _ (Rep.wr tb R2' hm hσ (fun b z => z.elim) keep there hFF new) (evo_wr tb (e1.trans e2) (fun b z => z.elim) keep there hFF)
      · cases hf
    | _ => cases c0
/-- {} with ints and texts as keys to come -/
theorem pd_dnew : PE X (.Dict [] [] pos) (tE C m true (.new 1) (lit (.dict []))) := PE.imp pe_dnewK fun σ H Q ⟨ρ, fp, R, p⟩ n hn => by
  have res : Res C (.new 1) H (upd H n (.dK [])) fp (.ref n) (.dict []) (fun a => a = n) := ⟨⟨n, fun _ => False, rfl, .inr (.inl ⟨[], [], upd_same, rfl, fun _ z => z⟩), fun z => z, fun b => ⟨.inl, fun z => z.elim (fun y => y) fun y => y.elim⟩⟩, fun a z => z ▸ R.nown hn, fun a z => z ▸ hn⟩
  exact p _ _ fp (fun a => a = n) (R.fresh (Gr.upd hn) (fun a z => by rw [show a = n from z]; exact hn) res.1.lv) (Evo.grow (Gr.upd hn)) (Qt.gr (Gr.upd hn)) res
/-! ### displays -/
structure PairD where
  q1 : Bool
  q2 : Bool
  k : M D
  v : M D
def PairD.t (C : Cd) (m : List Mode) (p : PairD) : TE × TE := (fun σ H Q => ∃ F, tE (C.plus F) m p.q1 .fz p.k σ H Q, fun σ H Q => ∃ F, tE (C.plus F) m p.q2 .fz p.v σ H Q)
theorem pp_nilD : PPs X pos [] [] (([] : List PairD).map (PairD.t C m)) := pps_nil
theorem pp_consD {kx vx : Expr} {ks : List (Option Expr)} {vs : List Expr} {r : List PairD} (hk : ∀ F, PE X kx (tE (C.plus F) m q1 .fz fa)) (hv : ∀ F, PE X vx (tE (C.plus F) m q2 .fz fb)) (hr : PPs X pos ks vs (r.map (PairD.t C m))) :
    PPs X pos (some kx :: ks) (vx :: vs) (((⟨q1, q2, fa, fb⟩ : PairD) :: r).map (PairD.t C m)) := pps_cons (PE.all hk) (PE.all hv) hr
theorem pairs_run {F : Ad} {σ : L2.St} {Q : List (V × V) → Hp → Prop} {K : List (D × D) → Env → Prop} {fp0 : Fp} {H0 : Hp} : ∀ {r : List PairD} {ρ : Env} {fp : Fp} {H : Hp}, Rep (C.plus F) m ρ σ H fp → Evo fp0 H0 fp H → Pst C fp H K (pairsM (r.map fun p => (p.k, p.v)) ρ) →
    (∀ kvs ρ' ps H' fp', K kvs ρ' → Rep (C.plus F) m ρ' σ H' fp' → Evo fp0 H0 fp' H' → Paired (fun (p : V × V) (d : D × D) => Is C.K C.mg (hide (own (C.plus F).M fp') H') p.1 d.1 ∧ Is C.K C.mg (hide (own (C.plus F).M fp') H') p.2 d.2) ps kvs → Evo fp H fp' H' → Q ps H') →
    tPairs (r.map (PairD.t C m)) σ H Q
  | [], ρ, fp, H, R, e, p, fin => fin [] ρ [] H fp p R e .nil .refl
  | pd :: r, ρ, fp, H, R, e, p, fin => by
    have p : Pst C fp H K (bnd pd.k (fun k => bnd pd.v fun v => bnd (pairsM (r.map fun p => (p.k, p.v))) fun kvs => ret ((k, v) :: kvs)) ρ) := p
    refine ⟨F, ρ, fp, R, p.bnd.plus.imp fun x ρ1 p1 v1 H1 fp1 F1 R1 e1 q1 r1 => ⟨F, ρ1, fp1, R1.rep, (p1.later e1).bnd.plus.imp fun y ρ2 p2 v2 H2 fp2 F2 R2 e2 q2 r2 => ?_⟩⟩
    refine pairs_run (F := F) (K := fun kvs ρ' => K ((x, y) :: kvs) ρ') R2.rep (e.trans (e1.trans e2)) ((p2.later e2).bnd.imp fun _ _ z => z) fun kvs ρ3 ps H3 fp3 k3 R3 e3 l3 e23 => ?_
    have g3 := e23.fz R2.rep.ml
    exact fin ((x, y) :: kvs) ρ3 ((v1, v2) :: ps) H3 fp3 k3 R3 e3 (.cons ⟨(r1.1.up (e2.fz R1.rep.ml)).up g3, r2.1.up g3⟩ l3) (e1.trans (e2.trans e23))
theorem merge_of {K : PySem.W.Frag} {mg : Str → Option Value} {G : Hp} : ∀ {ps : List (V × V)} {kvs : List (D × D)} {kv : List (Key × V)} {ds : List D}, Paired (fun (p : V × V) (d : D × D) => Is K mg G p.1 d.1 ∧ Is K mg G p.2 d.2) ps kvs → kvs.all (fun p => keyOk p.1) = true → IsL K mg G (kv.map (·.2)) ds →
    ∃ (more : List (Key × V)) (ds' : List D), ps = more.map (fun kv => (kV kv.1, kv.2)) ∧ IsL K mg G ((mergeK kv more).map (·.2)) ds' ∧ zD kD (mergeK kv more) ds' = kvs.foldl (fun acc p => putD acc p.1 p.2) (zD kD kv ds)
  | _, _, kv, ds, .nil, _, r => ⟨[], ds, rfl, r, rfl⟩
  | _, _, kv, ds, @Paired.cons _ _ _ p d ps kvs ⟨a, b⟩ t, c, r => by
    rw [List.all_cons, Bool.and_eq_true] at c
    obtain ⟨key, hk⟩ := keyOk_at c.1
    rw [hk] at a
    obtain ⟨ds1, h1, h2⟩ := put_of enc_kD (k := key) r b
    obtain ⟨more, ds2, h3, h4, h5⟩ := merge_of t c.2 h1
    refine ⟨(key, p.2) :: more, ds2, by rw [h3, List.map_cons, ← a.key], h4, ?_⟩
    rw [List.foldl_cons, hk, ← h2]
    exact h5
theorem pd_disp {keys : List (Option Expr)} {values : List Expr} {r : List PairD} (h : PPs X pos keys values (r.map (PairD.t C m))) (hall : keys.all (·.isSome) = true := by rfl) (hl : keys.length = values.length := by rfl) (h0 : keys ≠ [] := by exact List.cons_ne_nil _ _)
    (h15 : keys.length ≤ 15 := by decide) : PE X (.Dict keys values pos) (tE C m false (.new 1) (dispE (r.map fun p => (p.k, p.v)))) := PE.imp (pe_disp h hall hl h0 h15) fun σ H Q ⟨ρ, fp, R, p⟩ n hn => by
  have p := p.bnd
  have R1 : Rep (C.plus fun a => a = n) m ρ σ (upd H n (.dK [])) fp := R.fresh (Gr.upd hn) (fun a z => by rw [show a = n from z]; exact hn) fun a z => by have e : a = n := z; subst e; exact .dK upd_same
  refine pairs_run R1 (Evo.grow (Gr.upd hn)) (p.later (Evo.grow (Gr.upd hn))) fun kvs ρ' ps H' fp' kk R' e' l' e1 => ?_
  have hH : H' n = some (.dK []) := e1.keep n _ upd_same nt_dK fun i z => R1.msk i n z (.inr rfl)
  refine ⟨hH, ?_⟩
  by_cases c : (kvs.all (fun p => keyOk p.1) && decide (kvs.length ≤ 15)) = true
  · have kk : Pst C fp H _ ((if (kvs.all (fun p => keyOk p.1) && decide (kvs.length ≤ 15)) = true then ret (PyData.dict (kvs.foldl (fun acc p => putD acc p.1 p.2) [])) else stk) ρ') := kk
    rw [if_pos c] at kk
    rw [Bool.and_eq_true, decide_eq_true_eq] at c
    obtain ⟨more, ds', rfl, i1, i2⟩ := merge_of (kv := []) (ds := []) l' c.1 .nil
    have ll : more.length = kvs.length := by
      have := Paired.length l'
      rw [List.length_map] at this
      exact this
    refine ⟨more, rfl, by rw [ll]; exact c.2, ?_⟩
    have hid : grow (hide (own (C.plus fun a => a = n).M fp') H') (hide (fun a => own C.M fp' a ∨ a = n) (upd H' n (.dK (mergeK [] more)))) := fun b o z _ => by
      obtain ⟨n1, n2⟩ := hide_at z
      have nb : b ≠ n := fun y => n1 (.inl (.inr y))
      exact hide_of (fun y => n1 (y.elim (fun z => z.elim (fun y => .inl (.inl y)) .inr) fun z => .inl (.inr z))) (by rw [upd_ne nb]; exact n2)
    have tb : Tb H' (upd H' n (.dK (mergeK [] more))) := .wr hH nt_dK fun _ z => nomatch z
    have ei : Evo fp H fp' (upd H' n (.dK (mergeK [] more))) := ⟨fun b o z nt nb => by
      rw [upd_ne fun y => by rw [y, hn] at z; cases z]
      exact e'.keep b o z nt nb, e'.new, fun b z => by
      by_cases y : b = n
      · rw [y, upd_same]; exact fun x => nomatch x
      · rw [upd_ne y]; exact e'.there b z, e'.tb.trans tb⟩
    refine kk (.ref n) _ fp' (fun a => a = n) (R'.wrM (.inr rfl) (And.intro (fun _ z => nomatch z) fun _ z => nomatch z) tb) ei (fun z => nomatch z) ⟨⟨n, fun _ => False, rfl, .inr (.inl ⟨_, ds', upd_same, ?_, AllP.of_is (i1.up hid)⟩), fun z => z, fun b => ⟨.inl, fun z => z.elim (fun y => y) fun y => y.elim⟩⟩, fun a z y => ?_, fun a z => by rw [show a = n from z]; exact hn⟩
    · rw [show List.zip (List.map (fun p => kD p.fst) (mergeK [] more)) ds' = zD kD (mergeK [] more) ds' from rfl, i2]; rfl
    · have z : a = n := z
      subst z
      rcases y with y | ⟨j, y⟩
      · exact R.ml a y hn
      · exact R'.msk j a y (.inr rfl)
  · have kk : Pst C fp H _ ((if (kvs.all (fun p => keyOk p.1) && decide (kvs.length ≤ 15)) = true then ret (PyData.dict (kvs.foldl (fun acc p => putD acc p.1 p.2) [])) else stk) ρ') := kk
    rw [if_neg c] at kk
    exact kk.elim
end
end Dn

/-! DnGd -/
set_option Elab.async false
set_option linter.all false
set_option maxRecDepth 100000
/-! Dn, part Gd: a def's promise where no repr is under way (what repr of nested things asks of the machine). -/
namespace Dn
open PySem PySem.Spec PyProof.Rows L2
variable [LamTab]
/-- a def's promise: as the library's FnOk, but only where no repr is under way -/
structure FnG (P : Program) (w : World) (K : PySem.W.Frag) (mg : Str → Option Value) (base : Heap) (k : Nat) (f : Addr) (fd : FuncData) (ps : List Str) (sp : Sp) : Prop where
  arity : ∀ ws G R E', sp ws G R E' → ws.length = ps.length
  go : ∀ (B : Around) (out : List PySem.Env) (z : Shared) (G : Hp) (ag : Args) (xs : List Value) (ws : List V) (R : VK) (E' : XK), Room k B → B.guards = some [] → Env0 P w K mg base B out z G → BindsTo z fd ag (ps.zip xs) → Vals ws xs → sp ws G R E' →
    codeAny (model P w) B (.call (.ref f) ag) (CR (L2.CX P w) out P w G z R E') z
section
variable {P : Program} {w : World} {K : PySem.W.Frag} {mg : Str → Option Value} {base : Heap} {k j : Nat} {f : Addr} {fd : FuncData} {ps N : List Str} {sp : Sp} {x qual : Str} {params : Arguments} {body : List Stmt} {scope : Scope} {dfv : List V} {kws : List (Str × V)}
theorem FnG.le (F : FnG P w K mg base j f fd ps sp) (h : j ≤ k) : FnG P w K mg base k f fd ps sp := ⟨F.arity, fun B out z G ag xs ws R E' r => F.go B out z G ag xs ws R E' (r.mono h)⟩
/-- from a def's body -/
theorem fnG_of (F : FunD K x qual params body scope dfv kws f fd) (S : FnScope N ps scope) (ar : ∀ ws G R E', sp ws G R E' → ws.length = ps.length)
    (inside : ∀ (cdv : Value) (B : Around) (out : List PySem.Env) (z : Shared) (G : Hp) (ws : List V) (R : VK) (E' : XK), (∀ p : Str × Option Str, He.fAd K p = f → cdv = .ref (He.codeOf K p)) → Room k (B.deeper (envOfC qual scope z.heap.objs.size f cdv)) → B.guards = some [] → sp ws G R E' →
      ∃ t, PSs (cxOf (L2.CX P w) P w K mg base N qual scope f cdv B out z G E') body t ∧ t { nx := fun _ G' => R .non G', rt := R } (L2.start N ws) G) : FnG P w K mg base (k + 1) f fd ps sp := by
  obtain ⟨c0, d0, defs, kdefs, dc, md, ann, cdv, cls, slots, rfl, look, incode, _, _⟩ := F.ex
  constructor
  · exact ar
  · intro B out z G ag xs ws R E' room gd env binds rel want
    have inK : K.In z.heap := env.mod.kin.keeps fun a ob there => (env.bs a ob there).1
    have free : z.heap.NoLimit := env.mod.nolimit.keeps fun a ob there => (env.bs a ob there).1
    have kinds : ∀ pr ∈ ps.zip xs, scope.names.lookup pr.1 = some .local ∨ (scope.names.lookup pr.1 = some .cell ∧ ((cellsFrom (z.heap.objs.size + 1) scope.names []).lookup pr.1).isSome = true) := by
      rintro ⟨nm, val⟩ mem
      refine (S.par nm (List.of_mem_zip mem).1).imp id fun cell => ⟨cell, ?_⟩
      exact PySem.W.cellsFrom_some _ _ _ (.inl cell)
    refine codeAny_call_function room.depth (inK _ _ look) rfl S.co S.gen rfl (PySem.W.codeRec_of inK incode) (binds _ _ _ _ ?_)
    refine wpAny_newFunctionEnv_cells S.kind kinds ?_
    rintro env' rfl z1 made
    refine ⟨free.keeps made.toInCall.keep, codeAny_func ?_⟩
    obtain ⟨t, walk, now⟩ := inside cdv B out z G ws R E' (fun p hp => by
      obtain ⟨c, rfl⟩ := He.codeIn_ref incode
      subst hp
      rw [He.codeOf_eq look rfl]) (room.deeper _) gd want
    have begin_ := inv_start (CX := L2.CX P w) (E := E') S room.hd env (ar _ _ _ _ want) rel made
    refine wpAny_mono (walk.run [] z1 (L2.start N ws) G _ begin_ now) ?_ fun _ _ err => err
    intro flow z2 told
    cases flow with
    | brk => exact told.elim fun _ h => h.elim fun _ h => h.2.elim
    | cont => exact told.elim fun _ h => h.elim fun _ h => h.2.elim
    | next => obtain ⟨σ2, G2, J, q⟩ := told; exact ⟨.non, G2, J.os, J.bare, J.base, J.hok, rfl, q⟩
    | ret u => obtain ⟨v, σ2, G2, J, ru, q⟩ := told; exact ⟨v, G2, J.os, J.bare, J.base, J.hok, ru, q⟩
end
section
variable {X : Cx} {k : Nat} {f : Addr} {fd : FuncData} {ps : List Str} {sp : Sp} {dvs : List V} {ds : List Value} {E : L2.St → XK} {x : Str} {p pos : Pos} {e : Expr} {es : List Expr} {t : TA} {pins : List (Addr × Obj)} {σ : L2.St} {H : Hp} {s : Shared} {Q : VK} {us : List Value} {vs : List V}
/-- the call itself -/
theorem runG (F : FnG X.prog X.w X.K X.mg X.base k f fd ps sp) (hr : Room k X.A) (hgd : X.A.guards = some []) {kw : List (Str × Value)} {as : List Value} {ws : List V} (hb : ∀ s, X.K.In s.heap → BindsTo s fd ⟨us, kw⟩ (ps.zip as)) (hx : PassesAt (L2.CX X.prog X.w) X σ (E σ))
    (I : Inv X pins σ H s) (r : Vals ws as) (h : sp ws H Q (E σ)) : wpAny (model X.prog X.w) X.A (call (.ref f) us kw) (EP X pins σ Q) X.xe s := by
  refine wpAny_call (codeAny_mono (F.go X.A X.stack s H ⟨us, kw⟩ as ws Q (E σ) hr hgd I.env0 (hb s I.kIn) r h) ?_)
  intro res z told
  cases res with
  | error er => exact hx pins H s er z I told
  | ok flow =>
    cases flow with
    | ret u => exact I.after told
    | _ => exact told.elim
/-- f(e, ..) -/
theorem pe_callG (F : FnG X.prog X.w X.K X.mg X.base k f fd ps sp) (hr : Room k X.A) (hgd : X.A.guards = some []) (hg : Gl X x) (hm : X.mg x = some (.ref f)) (hk : PySem.W.keepIn X.K (.ref f) = true) (hb : Binds X.K fd ps ds) (hd : Vals dvs ds) (hx : ∀ σ, PassesAt (L2.CX X.prog X.w) X σ (E σ))
    (ha : PA X (e :: es) t) (hdb : (x == ("__debug__" : Str)) = false := by decide) (he : starEach (e :: es) X.env = (false, eval e X.env) :: starEach es X.env := by rfl) (hpl : (backTo pos (starEach es X.env)).any (·.1) = false := by rfl) :
    PE X (.Call (.Name x p) (e :: es) [] pos) (tCallSD sp dvs E t) := by
  constructor
  intro pins s σ H Q I h
  refine wpAny_Call_Name_kw (ld_glob I hg hm ?_ hdb)
  refine PySem.W.callWith_K (h₀ := X.base) I.ok.mod.kin hk (thn (ha.run pos pins s σ H _ I h) ?_) he hpl
  rintro us s1 ⟨vs, H1, I1, r, q⟩
  have r2 : Vals (vs ++ dvs) (us ++ ds) := r.append hd
  exact ⟨I1.kIn, runG F hr hgd (fun s2 kin => hb s2 us kin (r2.length.symm.trans (F.arity _ _ _ _ q))) (hx σ) I1 r2 q⟩
/-- f() -/
theorem pe_callG0 (F : FnG X.prog X.w X.K X.mg X.base k f fd ps sp) (hr : Room k X.A) (hgd : X.A.guards = some []) (hg : Gl X x) (hm : X.mg x = some (.ref f)) (hk : PySem.W.keepIn X.K (.ref f) = true) (hb : Binds X.K fd ps ds) (hd : Vals dvs ds) (hx : ∀ σ, PassesAt (L2.CX X.prog X.w) X σ (E σ))
    (hdb : (x == ("__debug__" : Str)) = false := by decide) : PE X (.Call (.Name x p) [] [] pos) (tCallSD sp dvs E tNil) := by
  constructor
  intro pins s σ H Q I h
  refine wpAny_Call_Name_kw (ld_glob I hg hm ?_ hdb)
  have h : sp dvs H Q (E σ) := h
  exact PySem.W.callWith_K0 I.kIn hk (runG (us := []) F hr hgd (fun s2 kin => hb s2 [] kin (hd.length.symm.trans (F.arity _ _ _ _ h))) (hx σ) I hd h)
/-- the values (by the names' order) in the parameters' order -/
def permL {α : Type} (is : List Nat) (xs : List α) : List α := is.filterMap fun i => xs[i]?
theorem permL_vals {vs : List V} {us : List Value} (h : Vals vs us) : ∀ is : List Nat, Vals (permL is vs) (permL is us)
  | [] => .nil
  | i :: is => by
    have r := permL_vals h is
    unfold permL at r ⊢
    rw [List.filterMap_cons, List.filterMap_cons]
    cases e : vs[i]? with
    | none =>
      have : us[i]? = none := by
        have l := Paired.length h
        rw [List.getElem?_eq_none_iff] at e ⊢
        omega
      rw [this]
      exact r
    | some v =>
      obtain ⟨d, h1, h2⟩ := h.get e
      rw [h1]
      exact .cons h2 r
/-- how a call by names alone binds -/
def KB0 (K : PySem.W.Frag) (fd : FuncData) (ps ks : List Str) (is : List Nat) : Prop := ∀ (s : Shared) (ws : List Value), K.In s.heap → ws.length = ks.length → BindsTo s fd ⟨[], ks.zip ws⟩ (ps.zip (permL is ws))
theorem kb0_of {K : PySem.W.Frag} {x qual : Str} {params : Arguments} {body : List Stmt} {scope : Scope} {kws : List (Str × V)} {f : Addr} {fd : FuncData} {ps ks : List Str} {is : List Nat} (F : FunD K x qual params body scope [] kws f fd)
    (h : ∀ (kV doc pm : Value) (an : Option Addr) (cdv ct : Value) (ws : List Value), ws.length = ks.length → bindArgs (PySem.W.fnOf x qual params body scope .none kV doc pm an cdv ct) ⟨[], ks.zip ws⟩ = pure (ps.zip (permL is ws))) : KB0 K fd ps ks is := by
  obtain ⟨oc, od, dV, kV, doc, pm, an, cdv, ct, osl, rfl, lk, hcd, hD, hK⟩ := F.ex
  rcases hD with ⟨_, rfl⟩ | ⟨e, _⟩
  · exact fun s ws _ hl => .of_eq (h kV doc pm an cdv ct ws hl)
  · exact absurd rfl e
/-- f(k = e, ..): values by names alone -/
theorem pe_callGK {ks : List Str} {is : List Nat} {kws : List Keyword} {tk : TA} (F : FnG X.prog X.w X.K X.mg X.base k f fd ps sp) (hr : Room k X.A) (hgd : X.A.guards = some []) (hg : Gl X x) (hm : X.mg x = some (.ref f)) (hk : PySem.W.keepIn X.K (.ref f) = true)
    (hb : KB0 X.K fd ps ks is) (hx : ∀ σ, PassesAt (L2.CX X.prog X.w) X σ (E σ)) (hkw : PK X kws tk) (hall : (backToKw pos (keywordEach kws X.env)).all (·.1.isSome) = true := by rfl) (hks : (backToKw pos (keywordEach kws X.env)).filterMap (·.1) = ks := by rfl)
    (hdb : (x == ("__debug__" : Str)) = false := by decide) (hpl : (backToKw pos (keywordEach kws X.env)).any (·.1.isNone) = false := by rfl) :
    PE X (.Call (.Name x p) [] kws pos) (fun σ H Q => tk σ H fun zs H2 => zs.length = ks.length ∧ sp (permL is zs) H2 Q (E σ)) := by
  constructor
  intro pins s σ H Q I h
  refine wpAny_Call_Name_kw (ld_glob I hg hm ?_ hdb)
  refine PySem.W.callWith_KW0 (h₀ := X.base) I.ok.mod.kin hk hall (thn (hkw.run pos pins s σ H _ I h) ?_) (by rw [hpl]; rfl)
  rintro zv s1 ⟨zs, H1, I1, r, hl, q⟩
  rw [hks]
  exact ⟨I1.kIn, runG F hr hgd (fun s2 kin => hb s2 zv kin ((Paired.length r).symm.trans hl)) (hx σ) I1 (permL_vals r is) q⟩
end
/-! ### the law's own call -/
section
variable {P : Program} {w : World} {K : PySem.W.Frag} {mg mb : Str → Option Value} {k : Nat} {fa a : Addr} {fd : FuncData} {x : Str} {sp : Sp} {z0 : Shared} {us : List Value} {ns : List Int}
/-- from an abstract heap G that tracks the script at most -/
theorem law_from (KX : K.In z0.heap) (hns : z0.heap.Ns mainGlobals mg) (hb : z0.heap.Ns builtinsNs mb) (hbb : ∀ y : Str, y ≠ "__name__" → mb y = bootBuiltins y) (hlim : z0.heap.NoLimit) (hg : z0.gens = #[])
    (ha : z0.heap.get? a = some { cls := .type "list", data := .seq us.toArray }) (hr : Room k callerA)
    (F : ∀ base : Heap, K.In base → base.Ns mainGlobals mg → FnG P w K mg base k fa fd [x] sp) (hbind : ∀ (s : Shared) (u : Value), BindsTo s fd ⟨[u], []⟩ [(x, u)])
    {G : Hp} (only : Only G) (want : sp [.ref a] G (fun v _ => v = .bl true) fun _ _ _ => False) (ok : HOk P w G z0.heap) (at_a : ∀ c, G c ≠ none → c = a) (own_ : G a ≠ none → K.lookup a = none) :
    codeAny (model P w) callerA (.call (.ref fa) ⟨[.ref a], []⟩) (fun res z => res = .ok (.ret (.bool true)) ∧ OldK z0.heap z.heap ∧ z.os = z0.os ∧ AllBare z.gens) z0 := by
  have there : ∀ {c : Addr} {ob : Obj}, z0.heap.get? c = some ob → G c = none → (hidT z0.heap G).get? c = some ob := fun e n => hidT_get e n
  have nodict : ∀ {c : Addr} {ob : Obj} {es : Array DictEntry} {ep : Nat}, z0.heap.get? c = some ob → ob.data = .dict es ep → G c = none := by
    intro c ob es ep e d
    refine Classical.byContradiction fun n => ?_
    have ec := at_a c n
    subst ec
    rw [ha] at e
    cases e
    cases d
  have spaces : ∀ {c : Addr} {m : Str → Option Value}, z0.heap.Ns c m → (hidT z0.heap G).Ns c m := by
    rintro c m ⟨ob, es, ep, e, d, r⟩
    exact ⟨ob, es, ep, there e (nodict e d), d, r⟩
  have inB : K.In (hidT z0.heap G) := by
    intro c ob e
    refine there (KX c ob e) (Classical.byContradiction fun n => ?_)
    have ec := at_a c n
    subst ec
    rw [own_ n] at e
    cases e
  obtain ⟨mc, l1, l2⟩ := hlim
  have md : Mod K mg (hidT z0.heap G) := ⟨inB, spaces hns, ⟨mb, spaces hb, hbb⟩, mc, spaces l1, l2⟩
  have env : Env0 P w K mg (hidT z0.heap G) callerA [] z0 G := by
    refine ⟨rfl, md, fun c ob e => of_hidT e, Nat.le_of_eq (hidT_size _ _), trivial, ?_, ok, .of_eq hg⟩
    intro c hc
    cases hc
  refine codeAny_mono ((F _ inB (spaces hns)).go callerA [] z0 G ⟨[.ref a], []⟩ [.ref a] [.ref a] _ _ hr rfl env (hbind z0 (.ref a)) (.cons rfl .nil) want) ?_
  intro res z told
  cases res with
  | error er => obtain ⟨_, _, _, _, _, _, _, _, _, _, _, _, no⟩ := told; exact no.elim
  | ok flow =>
    cases flow with
    | ret u =>
      obtain ⟨v, G2, os, bare, un, ok2, ru, q⟩ := told
      have q : v = .bl true := q
      subst q
      have ru : u = Value.bool true := ru
      subst ru
      refine ⟨rfl, OldK.of_keep ?_, os, bare⟩
      intro c ob e
      rcases only c with n | ⟨ob2, xs, n⟩
      · exact un.keep c ob e n (by intro y; cases y) (by intro y; cases y)
      · obtain ⟨e1, _⟩ := ok c _ n
        obtain ⟨e2, _⟩ := ok2 c _ (un.frzs c ob2 _ n)
        rw [e] at e1
        cases e1
        exact e2
    | _ => exact told.elim
theorem law_callG (KX : K.In z0.heap) (hns : z0.heap.Ns mainGlobals mg) (hb : z0.heap.Ns builtinsNs mb) (hbb : ∀ y : Str, y ≠ "__name__" → mb y = bootBuiltins y) (hlim : z0.heap.NoLimit) (hg : z0.gens = #[])
    (ha : z0.heap.get? a = some { cls := .type "list", data := .seq us.toArray }) (hi : IntsAre us ns) (hl : ns.length ≤ sizeLine) (hr : Room k callerA)
    (F : ∀ base : Heap, K.In base → base.Ns mainGlobals mg → FnG P w K mg base k fa fd [x] sp) (hbind : ∀ (s : Shared) (u : Value), BindsTo s fd ⟨[u], []⟩ [(x, u)])
    (hsp : ∀ H : Hp, Only H → SqL K H a (ns.map V.int) → sp [.ref a] H (fun v _ => v = .bl true) fun _ _ _ => False) :
    codeAny (model P w) callerA (.call (.ref fa) ⟨[.ref a], []⟩) (fun res z => res = .ok (.ret (.bool true)) ∧ OldK z0.heap z.heap ∧ z.os = z0.os ∧ AllBare z.gens) z0 := by
  have rv := vals_ints hi
  have lenV := hi.length
  cases hk : K.lookup a with
  | some o =>
    have e := KX a o hk
    rw [ha] at e
    cases e
    have only : Only (fun _ => none) := fun _ => .inl rfl
    have sq : SqL K (fun _ => none) a (ns.map V.int) := .inr ⟨_, us.toArray, _, hk, rfl, rfl, rfl, by rw [List.size_toArray, lenV]; exact hl, by simpa using rv⟩
    exact law_from KX hns hb hbb hlim hg ha hr F hbind only (hsp _ only sq) (fun c u y => nomatch y) (fun c y => absurd rfl y) fun y => absurd rfl y
  | none =>
    let G : Hp := fun c => if c = a then some (.frz { cls := .type "list", data := .seq us.toArray } (.lst (ns.map V.int))) else none
    have g1 : G a = some (.frz { cls := .type "list", data := .seq us.toArray } (.lst (ns.map V.int))) := if_pos rfl
    have g2 : ∀ c, c ≠ a → G c = none := fun c n => if_neg n
    have only : Only G := fun c => by
      by_cases e : c = a
      · rw [e]; exact .inr ⟨_, _, g1⟩
      · exact .inl (g2 c e)
    refine law_from (G := G) KX hns hb hbb hlim hg ha hr F hbind only (hsp _ only (.inl (.inr ⟨_, g1⟩))) ?_ (fun c y => Classical.byContradiction fun e => y (g2 c e)) fun _ => hk
    intro c u y
    by_cases e : c = a
    · subst e
      rw [g1] at y
      cases y
      exact ⟨ha, by rw [List.length_map]; exact hl, us, _, rv, ha⟩
    · rw [g2 c e] at y
      cases y
end
/-- a law, by its def's promise over every base -/
theorem walk_G {l : PySem.W.OpenLaw} {n k : Nat} {q : Program} {loose : List Str} {XP : (Str → Option Value) → Heap → Prop} {YP : World → Heap → Prop} {d : DefRec} {x : Str} (hn : l.most = some n) (hn2 : n ≤ sizeLine) (hdf : d.params.defaults = []) (hr : Room k callerA)
    (F : ∀ (w : World) (mg : Str → Option Value) (fa : Addr) (h : Heap), YP w h → h.Ns mainGlobals mg → mg d.name = some (.ref fa) →
      ∃ (K : PySem.W.Frag) (fd : FuncData) (sp : Sp), K.In h ∧ (∀ (s : Shared) (u : Value), BindsTo s fd ⟨[u], []⟩ [(x, u)]) ∧
        (∀ (H : Hp) (a : Addr) (ns : List Int), ns.length ≤ n → Only H → SqL K H a (ns.map V.int) → sp [.ref a] H (fun v _ => v = .bl true) fun _ _ _ => False) ∧
        ∀ base : Heap, K.In base → base.Ns mainGlobals mg → FnG l.prog w K mg base k fa fd [x] sp) :
    PySem.W.WalkO q loose XP YP l.row.toRowW d [] (fun f vs => PySem.call f vs) := by
  refine Att.attach_call hn hdf ?_
  intro w s₀ s₁ mg mb fa o pm cd doc a vs ns G Y ho hd hcd hmg hobj hints hlen hg
  obtain ⟨K, fd, sp, KX, hb, hsp, hF⟩ := F w mg fa _ Y G.T.g hmg
  exact law_callG KX G.T.g G.T.b G.T.builtins G.T.nolimit hg hobj hints (Nat.le_trans hlen hn2) hr hF hb fun H hO hS => hsp H a ns hlen hO hS
end Dn

/-! DnN -/
set_option Elab.async false
set_option linter.all false
set_option maxRecDepth 100000
/-! Dn, part N: defs and their calls. -/
namespace Dn
open PySem PySem.Spec PyProof.Rows L2
variable [LamTab]
abbrev FD := List D → Out D
def envD (n : Nat) (args : List D) : Env := args.map some ++ List.replicate (n - args.length) none
/-- a def of n names with the body s; b: its end may be come to -/
def bodyD (n np : Nat) (b : Bool) (s : S) : FD := fun args => if args.length = np then match s (envD n args) with
  | .ok (.rt d) ρ' => .ok d ρ'
  | .ok .next ρ' => if b = true then .ok .none ρ' else .stuck
  | .ok _ _ => .stuck
  | .err c d ρ' => .err c d ρ'
  | .stuck => .stuck
  else .stuck
def callE (f : FD) (dd : List D) (a : M (List D)) : M D := bnd a fun ds ρ => match f (ds ++ dd) with
  | .ok d _ => .ok d ρ
  | .err c d _ => .err c d ρ
  | .stuck => .stuck
def callIO (f : FD) (i : Nat) (a : M (List D)) : M D := bnd (chk (fun _ => true) i) fun _ => bnd a fun ds ρ => match ρ[i]? with
  | some (some d0) => match f (d0 :: ds) with
    | .ok d ρ' => match ρ'[0]? with
      | some (some d') => .ok d (ρ.set i (some d'))
      | _ => .stuck
    | _ => .stuck
  | _ => .stuck
abbrev ExT := Str → Addr → Str → Prop
/-- a def of frozen arguments -/
def spF (K : PySem.W.Frag) (mg : Str → Option Value) (ex : ExT) (rk : Kd) (f : FD) : Sp := fun vs H Q E => ∃ (M : Ad) (ds : List D), (∀ a, M a → Lv H a) ∧ LamX.Tabs LamTab.tabs H ∧ IsL K mg (hide M H) vs ds ∧ match f ds with
  | .ok d _ => ∀ v H', Gr H H' → Nw K mg rk M H H' v d → Q v H'
  | .err c d _ => ∀ (Cc : Addr) (fld : Str) (dd : Addr) (v : V) (H' : Hp), Gr H H' → ex c Cc fld → H dd = none → H' dd = some (.xd [(fld, v)]) → Is K mg (hide M H') v d → E (.ref Cc) (some dd) H'
  | .stuck => False
/-- a def whose first argument is written -/
def spIO (K : PySem.W.Frag) (mg : Str → Option Value) (l : Nat) (f : FD) : Sp := fun vs H Q _ => ∃ (M F : Ad) (v0 : V) (d0 : D) (ws : List V) (ds : List D), vs = v0 :: ws ∧ LamX.Tabs LamTab.tabs H ∧ (∀ a, M a → Lv H a) ∧ (∀ a, F a → ¬ M a) ∧
  Ow K mg (hide (fun a => M a ∨ F a) H) H l v0 d0 F ∧ IsL K mg (hide (fun a => M a ∨ F a) H) ws ds ∧ match f (d0 :: ds) with
  | .ok d ρ' => ∃ d', ρ'[0]? = some (some d') ∧ ∀ v H' F', Tb H H' → (∀ b o, H b = some o → NT o → ¬ F b → H' b = some o) → (∀ b, H b ≠ none → H' b ≠ none) → (∀ a, F' a → F a ∨ H a = none) → Ow K mg (hide (fun a => M a ∨ F' a) H') H' l v0 d' F' → Is K mg (hide (fun a => M a ∨ F' a) H') v d → Q v H'
  | _ => False
/-- what is fixed in such a def's body -/
def cd0 (K : PySem.W.Frag) (mg : Str → Option Value) (M : Ad) (ex : ExT) (rk : Kd) (E : WX) : Cd := ⟨K, mg, M, [], fun _ => .non, fun _ => 0, ex, fun _ => True, E, rk, [], none⟩
def cd1 (K : PySem.W.Frag) (mg : Str → Option Value) (M : Ad) (l : Nat) (v0 : V) (ex : ExT) (E : WX) : Cd := ⟨K, mg, M, [0], fun _ => v0, fun _ => l, ex, fun _ => True, E, .fz, [0], none⟩
def fzs (n : Nat) : List Mode := List.replicate n .fz
def ios (l n : Nat) : List Mode := .ow l :: List.replicate (n - 1) .fz
section
variable {P : Program} {w : World} {K : PySem.W.Frag} {mg : Str → Option Value} {base : Heap} {x qual : Str} {params : Arguments} {body : List Stmt} {scope : Scope} {dfv : List V} {kws : List (Str × V)} {f : Addr} {fd : FuncData} {N ps : List Str} {k : Nat} {ex : ExT} {rk : Kd} {s : S} {b : Bool}
theorem envD_at {n i : Nat} {ds : List D} {d : D} (h : (envD n ds)[i]? = some (some d)) : ds[i]? = some d := by
  unfold envD at h
  by_cases l : i < ds.length
  · rw [List.getElem?_append_left (by rw [List.length_map]; exact l), List.getElem?_map] at h
    obtain ⟨e, h1, h2⟩ := Option.map_eq_some_iff.mp h
    cases h2
    exact h1
  · rw [List.getElem?_append_right (by rw [List.length_map]; omega), List.getElem?_replicate] at h
    split at h
    · cases h
    · cases h
theorem start_at {vs : List V} {i : Nat} {v : V} (h : vs[i]? = some v) : (L2.start N vs)[i]? = some (some v) := by
  unfold L2.start
  have l : i < vs.length := by
    refine Classical.byContradiction fun z => ?_
    rw [List.getElem?_eq_none (by omega)] at h
    cases h
  rw [List.getElem?_append_left (by rw [List.length_map]; exact l), List.getElem?_map, h]
  rfl
theorem own0 {M : Ad} : own M (fun _ _ => False) = M := funext fun a => propext ⟨fun z => z.elim (fun y => y) fun ⟨_, y⟩ => y.elim, .inl⟩
theorem rep0 {M : Ad} {E : WX} {vs : List V} {ds : List D} {H : Hp} (tb : LamX.Tabs LamTab.tabs H) (hM : ∀ a, M a → Lv H a) (h : IsL K mg (hide M H) vs ds) (hl : ds.length ≤ N.length) : Rep (cd0 K mg M ex rk E) (fzs N.length) (envD N.length ds) (L2.start N vs) H (fun _ _ => False) where
  slot := fun i d e => by
    have e' := envD_at e
    obtain ⟨v, h1, h2⟩ := h.getD e'
    refine ⟨v, start_at h1, ?_⟩
    have li : i < ds.length := by
      refine Classical.byContradiction fun z => ?_
      rw [List.getElem?_eq_none (by omega)] at e'
      cases e'
    have hm : (fzs N.length)[i]? = some .fz := by
      unfold fzs
      rw [List.getElem?_replicate, if_pos (by omega)]
    rw [hm]
    exact Is.up (hide_less fun a z => z.elim (fun y => y) fun ⟨_, y⟩ => y.elim) h2
  len := by
    unfold envD L2.start
    rw [List.length_append, List.length_append, List.length_map, List.length_map, List.length_replicate, List.length_replicate, h.length]
  dis := fun i j a p => p.elim
  non := fun i _ a p => p
  msk := fun i a p => p.elim
  lv := fun a q => q.elim (hM a) fun ⟨_, z⟩ => z.elim
  io := fun i h => nomatch h
  px := trivial
  tab := tb
theorem pre_len {sc : Scope} (S : FnScope N ps sc) : ps.length ≤ N.length := by
  have := congrArg List.length S.pre
  rw [List.length_take] at this
  omega
theorem body_len {n np : Nat} {ds : List D} (h : bodyD n np b s ds ≠ .stuck) : ds.length = np := Classical.byContradiction fun z => h (if_neg z)
/-- THE RULE for a def of frozen arguments -/
theorem okF (F : FunD K x qual params body scope dfv kws f fd) (S : FnScope N ps scope) {mn mb mc : List Mode} (hrk : kSet rk = true) (hn : b = true → rk = .fz)
    (der : ∀ (cdv : Value) (A : Around) (outer : List PySem.Env) (s0 : Shared) (H : Hp) (E : XK) (M : Ad), Room k (A.deeper (envOfC qual scope s0.heap.objs.size f cdv)) →
      AgS (cxOf (L2.CX P w) P w K mg base N qual scope f cdv A outer s0 H E) (cd0 K mg M ex rk fun c d _ H' => E c d H') →
      (∀ p : Str × Option Str, He.fAd K p = f → cdv = .ref (He.codeOf K p)) →
      PSs (cxOf (L2.CX P w) P w K mg base N qual scope f cdv A outer s0 H E) body (tS (cd0 K mg M ex rk fun c d _ H' => E c d H') (fzs N.length) mn mb mc s)) :
    FnG P w K mg base (k + 1) f fd ps (spF K mg ex rk (bodyD N.length ps.length b s)) :=
  fnG_of F S (fun vs H Q E ⟨M, ds, _, _, h, z⟩ => h.length.trans (body_len fun y => by rw [y] at z; exact z)) fun cdv A outer s0 H vs Q E hc hr gd ⟨M, ds, hM, tb, hv, post⟩ => by
    have hl : ds.length = ps.length := body_len fun y => by rw [y] at post; exact post
    refine ⟨_, der cdv A outer s0 H E M hr ⟨⟨rfl, rfl, S.nd, takes_of rfl rfl rfl rfl, ?_, gd⟩, passes_of rfl⟩ hc, ?_⟩
    · have := hr.un
      show (A.deeper (envOfC qual scope s0.heap.objs.size f cdv)).units + 65 < cLine
      omega
    · refine ⟨envD N.length ds, fun _ _ => False, rep0 tb hM hv (by rw [hl]; exact pre_len S), ?_⟩
      have gr : ∀ {fp' : Fp} {H' : Hp}, Evo (fun _ _ => False) H fp' H' → Gr H H' := fun e => ⟨fun b o z nt => e.keep b o z nt fun _ y => y, e.tb, e.there⟩
      unfold bodyD at post
      rw [if_pos hl] at post
      cases hs : s (envD N.length ds) with
      | ok fl ρ' =>
        rw [hs] at post
        cases fl with
        | next =>
          by_cases hb : b = true
          · have post : ∀ v H', Gr H H' → Nw K mg rk M H H' v .none → Q v H' := by
              have z := post
              simp only [hb, if_true] at z
              exact z
            rw [hn hb] at post
            exact fun σ' H' fp' R e => post .non H' (gr e) .non
          · simp only [hb] at post
            exact post.elim
        | rt d =>
          intro v m' σ' H' fp' F' R io e r
          refine post v H' (gr e) ?_
          have hid : grow (hide (own M fp') H') (hide M H') := hide_less fun a z => .inl z
          match rk, hrk, r with
          | .fz, _, r => exact r.1.up hid
          | .new n, _, r => exact ⟨F', Ow.keep (hide_less fun a z => z.elim (fun y => .inl (.inl y)) .inr) r.1 fun a o _ z _ => z, fun a z => ⟨fun y => r.2.1 a z (.inl y), r.2.2 a z⟩⟩
        | brk => exact post.elim
        | cont => exact post.elim
      | err c d ρ' =>
        rw [hs] at post
        exact fun m' σ' H' fp' Cc fld dd v em hx R e _ hn hd is => post Cc fld dd v H' (gr e) hx hn hd (is.up (hide_less fun a z => .inl z))
      | stuck => rw [hs] at post; exact post.elim
theorem rep1 {M F : Ad} {E : WX} {l : Nat} {v0 : V} {d0 : D} {vs : List V} {ds : List D} {H : Hp} (tb : LamX.Tabs LamTab.tabs H) (hM : ∀ a, M a → Lv H a) (hF : ∀ a, F a → ¬ M a) (h0 : Ow K mg (hide (fun a => M a ∨ F a) H) H l v0 d0 F) (h : IsL K mg (hide (fun a => M a ∨ F a) H) vs ds) (hl : ds.length + 1 ≤ N.length) :
    Rep (cd1 K mg M l v0 ex E) (ios l N.length) (envD N.length (d0 :: ds)) (L2.start N (v0 :: vs)) H (fun i a => i = 0 ∧ F a) := by
  have ow : own M (fun i a => i = 0 ∧ F a) = fun a => M a ∨ F a := funext fun a => propext ⟨fun z => z.elim .inl fun ⟨i, y⟩ => .inr y.2, fun z => z.elim .inl fun y => .inr ⟨0, rfl, y⟩⟩
  refine ⟨fun i d e => ?_, ?_, fun i j a p q => p.1.trans q.1.symm, fun i ni a p => ?_, fun i a p => hF a p.2, fun a q => ?_, fun i hi => ?_, trivial, tb⟩
  · have e' := envD_at e
    show ∃ v, (L2.start N (v0 :: vs))[i]? = some (some v) ∧ SlotOk K mg (hide (own M (fun i a => i = 0 ∧ F a)) H) H (ios l N.length)[i]? v d (fun a => i = 0 ∧ F a)
    rw [ow]
    cases i with
    | zero =>
      simp at e'
      subst e'
      refine ⟨v0, start_at (by simp), ?_⟩
      have ef : (fun a => (0 : Nat) = 0 ∧ F a) = F := funext fun a => propext ⟨fun z => z.2, fun z => ⟨rfl, z⟩⟩
      rw [ef]
      exact h0
    | succ i =>
      obtain ⟨v, h1, h2⟩ := h.getD (i := i) (d := d) (by simpa using e')
      refine ⟨v, start_at (by simpa using h1), ?_⟩
      have li : i < ds.length := by
        refine Classical.byContradiction fun z => ?_
        rw [List.getElem?_eq_none (by simp; omega)] at e'
        cases e'
      have hm : (ios l N.length)[i + 1]? = some .fz := by
        unfold ios
        rw [List.getElem?_cons_succ, List.getElem?_replicate, if_pos (by omega)]
      rw [hm]
      exact h2
  · unfold envD L2.start
    rw [List.length_append, List.length_append, List.length_map, List.length_map, List.length_replicate, List.length_replicate, List.length_cons, List.length_cons, h.length]
  · refine ni ⟨l, ?_⟩
    rw [p.1]
    rfl
  · have : own M (fun i a => i = 0 ∧ F a) a := q
    rw [ow] at this
    exact this.elim (hM a) (h0.lv a)
  · have : i = 0 := by simpa [cd1] using hi
    subst this
    exact start_at (v := v0) (by simp)
/-- THE RULE for a def whose first argument is written -/
theorem okIO {l : Nat} (F : FunD K x qual params body scope dfv kws f fd) (S : FnScope N ps scope) {mn mb mc : List Mode} (hmn : b = true → mn[0]? = some (.ow l))
    (der : ∀ (cdv : Value) (A : Around) (outer : List PySem.Env) (s0 : Shared) (H : Hp) (E : XK) (M : Ad) (v0 : V), Room k (A.deeper (envOfC qual scope s0.heap.objs.size f cdv)) →
      AgS (cxOf (L2.CX P w) P w K mg base N qual scope f cdv A outer s0 H E) (cd1 K mg M l v0 ex fun _ _ _ _ => False) →
      (∀ p : Str × Option Str, He.fAd K p = f → cdv = .ref (He.codeOf K p)) →
      PSs (cxOf (L2.CX P w) P w K mg base N qual scope f cdv A outer s0 H E) body (tS (cd1 K mg M l v0 ex fun _ _ _ _ => False) (ios l N.length) mn mb mc s)) :
    FnG P w K mg base (k + 1) f fd ps (spIO K mg l (bodyD N.length ps.length b s)) :=
  fnG_of F S (fun vs H Q E ⟨_, _, _, d0, _, ds, ev, _, _, _, _, h, z⟩ => by
    have hl : (d0 :: ds).length = ps.length := body_len fun y => by rw [y] at z; exact z
    rw [ev, List.length_cons, h.length]
    exact hl) fun cdv A outer s0 H vs Q E hc hr gd ⟨M, F, v0, d0, ws, ds, ev, tb, hM, hF, h0, hv, post⟩ => by
    subst ev
    have hl : (d0 :: ds).length = ps.length := body_len fun y => by rw [y] at post; exact post
    refine ⟨_, der cdv A outer s0 H E M v0 hr ⟨⟨rfl, rfl, S.nd, takes0, ?_, gd⟩, passes_of rfl⟩ hc, ?_⟩
    · have := hr.un
      show (A.deeper (envOfC qual scope s0.heap.objs.size f cdv)).units + 65 < cLine
      omega
    · refine ⟨envD N.length (d0 :: ds), fun i a => i = 0 ∧ F a, rep1 tb hM hF h0 hv (by have := pre_len S; simp at hl; omega), ?_⟩
      unfold bodyD at post
      rw [if_pos hl] at post
      have done : ∀ {d : D} {ρ' : Env} {m' : List Mode} {σ' : L2.St} {H' : Hp} {fp' : Fp} {v : V}, (∃ d', ρ'[0]? = some (some d') ∧ ∀ v H' F', Tb H H' → (∀ b o, H b = some o → NT o → ¬ F b → H' b = some o) → (∀ b, H b ≠ none → H' b ≠ none) → (∀ a, F' a → F a ∨ H a = none) → Ow K mg (hide (fun a => M a ∨ F' a) H') H' l v0 d' F' → Is K mg (hide (fun a => M a ∨ F' a) H') v d → Q v H') →
          m'[0]? = some (.ow l) → Rep (cd1 K mg M l v0 ex fun _ _ _ _ => False) m' ρ' σ' H' fp' → Evo (fun i a => i = 0 ∧ F a) H fp' H' → Is K mg (hide (own M fp') H') v d → Q v H' := by
        rintro d ρ' m' σ' H' fp' v ⟨d', hd, k⟩ hm R e is
        obtain ⟨v', h1, h2⟩ := R.slot 0 d' hd
        have h3 := R.io 0 (by simp [cd1])
        rw [h1] at h3
        cases h3
        rw [hm] at h2
        have hid : grow (hide (own M fp') H') (hide (fun a => M a ∨ fp' 0 a) H') := hide_less fun a z => z.elim .inl fun y => .inr ⟨0, y⟩
        exact k v H' (fp' 0) e.tb (fun b o z nt nb => e.keep b o z nt fun i y => nb y.2) e.there (fun a z => (e.new 0 a z).elim (fun ⟨_, y⟩ => .inl y.2) .inr) (Ow.keep hid h2 fun a o _ z _ => z) (is.up hid)
      cases hs : s (envD N.length (d0 :: ds)) with
      | ok fl ρ' =>
        rw [hs] at post
        cases fl with
        | next =>
          by_cases hb : b = true
          · simp only [hb, if_true] at post
            exact fun σ' H' fp' R e => done post (hmn hb) R e .non
          · simp only [hb] at post
            exact post.elim
        | rt d => exact fun v m' σ' H' fp' F' R io e r => done post (io 0 (by simp [cd1])) R e r.1
        | brk => exact post.elim
        | cont => exact post.elim
      | err c d ρ' => rw [hs] at post; exact post.elim
      | stuck => rw [hs] at post; exact post.elim
theorem bindsN (F : FunD K x qual params body scope [] kws f fd) (h : ∀ (kV doc pm : Value) (an : Option Addr) (cdv ct : Value) (us : List Value), us.length = ps.length → bindArgs (PySem.W.fnOf x qual params body scope .none kV doc pm an cdv ct) ⟨us, []⟩ = pure (ps.zip us)) : Binds K fd ps [] := by
  obtain ⟨oc, od, dV, kV, doc, pm, an, cdv, ct, osl, rfl, lk, hcd, hD, hK⟩ := F.ex
  rcases hD with ⟨_, rfl⟩ | ⟨e, _⟩
  · exact .all (h kV doc pm an cdv ct)
  · exact absurd rfl e
end
/-! ### calls -/
section
variable {X : Cx} {C : Cd} {m : List Mode} {q : Bool} {e : Expr} {es : List Expr} {g : M (List D)} {p pos p0 : Pos} {k i l : Nat} {f : Addr} {fd : FuncData} {ps : List Str} {rk : Kd} {fD : FD} {x y : Str} {ds : List Value} {dvs : List V} {dd : List D}
theorem pd_callF (A : Agr X C) (F : FnG X.prog X.w X.K X.mg X.base k f fd ps (spF C.K C.mg C.ex rk fD)) (hr : Room k X.A) (hm : X.mg x = some (.ref f)) (hk : PySem.W.keepIn X.K (.ref f) = true) (hb : Binds X.K fd ps ds) (ha : PA X (e :: es) (tA C m q g))
    (hd : Vals dvs ds := by exact .nil) (hdd : ∀ G, IsL C.K C.mg G dvs dd := by intro _; exact .nil) (hem : C.em m := by first | exact True.intro | rfl) (hg : Gl X x := by rfl) (hdb : (x == ("__debug__" : Str)) = false := by decide)
    (he : starEach (e :: es) X.env = (false, eval e X.env) :: starEach es X.env := by rfl) (hpl : (backTo pos (starEach es X.env)).any (·.1) = false := by rfl) : PE X (.Call (.Name x p) (e :: es) [] pos) (tE C m q rk (callE fD dd g)) :=
  PE.imp (pe_callG (E := WE C.E) F hr A.gd hg hm hk hb hd (fun σ => passAt A.tk σ) ha hdb he hpl) fun σ H Q ⟨ρ, fp, R, pp⟩ => by
    refine ⟨ρ, fp, R, pp.bnd.imp fun xs ρ1 p1 vs H1 fp1 R1 e1 q1 r1 => ⟨own C.M fp1, xs ++ dd, R1.lv, R1.tab, r1.append (hdd _), ?_⟩⟩
    cases hf : fD (xs ++ dd) with
    | ok d ρ' =>
      simp only [hf] at p1
      intro v H' gr nw
      obtain ⟨F', Rk, rs⟩ := nw.res R1 e1 gr
      exact p1 v H' fp1 F' Rk (e1.mono gr) (q1.grw gr) rs
    | err c d ρ' =>
      simp only [hf] at p1
      exact fun Cc fld dv v H' gr hx hn hd is => p1 m σ H' fp1 Cc fld dv v hem hx (R1.stay gr) (e1.mono gr) (R1.nown hn) (e1.none hn) hd is
    | stuck =>
      simp only [hf] at p1
      exact p1.elim
/-- f(x, ..), x a slot that f writes -/
theorem pd_callIO (A : Agr X C) (F : FnG X.prog X.w X.K X.mg X.base k f fd ps (spIO C.K C.mg l fD)) (hr : Room k X.A) (hm : X.mg x = some (.ref f)) (hk : PySem.W.keepIn X.K (.ref f) = true) (hb : Binds X.K fd ps []) (hi : m[i]? = some (.ow l)) (hN : X.N[i]? = some y) (ha : PA X es (tA C m q g))
    (hv : Vis X.env.scope y := by first | exact Or.inl rfl | exact Or.inr (Or.inl rfl) | exact Or.inr (Or.inr rfl)) (hyd : (y == ("__debug__" : Str)) = false := by decide) (hcd : (y == ("__classdict__" : Str)) = false := by decide) (hg : Gl X x := by rfl) (hdb : (x == ("__debug__" : Str)) = false := by decide)
    (he : starEach (.Name y p0 :: es) X.env = (false, eval (.Name y p0) X.env) :: starEach es X.env := by rfl) (hpl : (backTo pos (starEach es X.env)).any (·.1) = false := by rfl) : PE X (.Call (.Name x p) (.Name y p0 :: es) [] pos) (tE C m false .fz (callIO fD i g)) :=
  PE.imp (pe_callG (E := WE C.E) (dvs := []) F hr A.gd hg hm hk hb .nil (fun σ => passAt A.tk σ) (pa_cons (pe_var hN hv hyd hcd) ha he) hdb he hpl) fun σ H Q ⟨ρ, fp, R, pp⟩ => by
    obtain ⟨d0, h0, _, pp⟩ := pp.bnd.chk
    obtain ⟨v0, hσ, _⟩ := R.slot i _ h0
    refine ⟨v0, hσ, ρ, fp, R, pp.bnd.imp fun xs ρ1 p1 vs H1 fp1 R1 e1 q1 r1 => ?_⟩
    cases h1 : ρ1[i]? with
    | none => simp only [h1] at p1; exact p1.elim
    | some o =>
      cases o with
      | none => simp only [h1] at p1; exact p1.elim
      | some d1 =>
        simp only [h1] at p1
        obtain ⟨v1, hσ1, sl⟩ := R1.slot i _ h1
        rw [hσ] at hσ1
        cases hσ1
        rw [hi] at sl
        let M : Ad := fun a => C.M a ∨ ∃ j, j ≠ i ∧ fp1 j a
        have hMF : ∀ (F' : Ad) a, own C.M (put fp1 i F') a ↔ M a ∨ F' a := fun F' a => ⟨fun z => by
          rcases z with z | ⟨j, z⟩
          · exact .inl (.inl z)
          · by_cases ej : j = i
            · subst ej; rw [put_same] at z; exact .inr z
            · rw [put_ne ej] at z; exact .inl (.inr ⟨j, ej, z⟩), fun z => by
          rcases z with (z | ⟨j, ej, z⟩) | z
          · exact .inl z
          · exact .inr ⟨j, by rw [put_ne ej]; exact z⟩
          · exact .inr ⟨i, by rw [put_same]; exact z⟩⟩
        have hME : ∀ a, own C.M fp1 a ↔ M a ∨ fp1 i a := fun a => ⟨fun z => by
          rcases z with z | ⟨j, z⟩
          · exact .inl (.inl z)
          · by_cases ej : j = i
            · subst ej; exact .inr z
            · exact .inl (.inr ⟨j, ej, z⟩), fun z => by
          rcases z with (z | ⟨j, ej, z⟩) | z
          · exact .inl z
          · exact .inr ⟨j, z⟩
          · exact .inr ⟨i, z⟩⟩
        have hid : grow (hide (own C.M fp1) H1) (hide (fun a => M a ∨ fp1 i a) H1) := hide_less fun a z => (hME a).mpr z
        refine ⟨M, fp1 i, v0, d1, vs ++ [], xs, rfl, R1.tab, fun a z => R1.lv a ((hME a).mpr (.inl z)), fun a z y => ?_, sl.keep hid fun a o _ y _ => y, by rw [List.append_nil]; exact r1.up hid, ?_⟩
        · rcases y with y | ⟨j, ej, y⟩
          · exact R1.msk i a z y
          · exact ej (R1.dis j i a y z)
        · cases hf : fD (d1 :: xs) with
          | ok d ρ' =>
            simp only [hf] at p1
            cases h2 : ρ'[0]? with
            | none => simp only [h2] at p1; exact p1.elim
            | some o =>
              cases o with
              | none => simp only [h2] at p1; exact p1.elim
              | some d' =>
                simp only [h2] at p1
                refine ⟨d', h2, fun v H' F' tb keep there hF ow is => ?_⟩
                have hid2 : grow (hide (fun a => M a ∨ F' a) H') (hide (own C.M (put fp1 i F')) H') := hide_less fun a z => (hMF F' a).mp z
                have R1' : Rep (C.plus fun _ => False) m ρ1 σ H1 fp1 := R1.plus0 fun _ z => z
                have hF3 : ∀ a, F' a → fp1 i a ∨ (fun _ => False) a ∨ H1 a = none := fun a z => (hF a z).elim .inl fun y => .inr (.inr y)
                have R2 := Rep.wr3 tb R1' hi hσ (fun a z => z.elim) keep there hF3 (Ow.keep hid2 ow fun a o _ z _ => z)
                exact p1 v H' _ (fun _ => False) R2 (evo_wr3 tb e1 (fun a z => z.elim) keep there hF3) (fun z => nomatch z) ⟨is.up hid2, fun _ z => z⟩
          | err c d ρ' => simp only [hf] at p1; exact p1.elim
          | stuck => simp only [hf] at p1; exact p1.elim
/-- f() -/
theorem pd_callF0 (A : Agr X C) (F : FnG X.prog X.w X.K X.mg X.base k f fd ps (spF C.K C.mg C.ex rk fD)) (hr : Room k X.A) (hm : X.mg x = some (.ref f)) (hk : PySem.W.keepIn X.K (.ref f) = true) (hb : Binds X.K fd ps ds)
    (hd : Vals dvs ds := by exact .nil) (hdd : ∀ G, IsL C.K C.mg G dvs dd := by intro _; exact .nil) (hem : C.em m := by first | exact True.intro | rfl) (hg : Gl X x := by rfl) (hdb : (x == ("__debug__" : Str)) = false := by decide) : PE X (.Call (.Name x p) [] [] pos) (tE C m true rk (callE fD dd nilA)) :=
  PE.imp (pe_callG0 (E := WE C.E) F hr A.gd hg hm hk hb hd (fun σ => passAt A.tk σ) hdb) fun σ H Q ⟨ρ, fp, R, p1⟩ => by
    refine ⟨own C.M fp, dd, R.lv, R.tab, hdd _, ?_⟩
    unfold callE nilA at p1
    rw [show (bnd (ret ([] : List D)) fun ds ρ => match fD (ds ++ dd) with
      | .ok d _ => Out.ok d ρ
      | .err c d _ => .err c d ρ
      | .stuck => .stuck) ρ = (match fD dd with
      | .ok d _ => Out.ok d ρ
      | .err c d _ => .err c d ρ
      | .stuck => .stuck) from rfl] at p1
    cases hf : fD dd with
    | ok d ρ' =>
      simp only [hf] at p1
      intro v H' gr nw
      obtain ⟨F', Rk, rs⟩ := nw.res R .refl gr
      exact p1 v H' fp F' Rk (Evo.grow gr) (Qt.gr gr) rs
    | err c d ρ' =>
      simp only [hf] at p1
      exact fun Cc fld dv v H' gr hx hn hd is => p1 m σ H' fp Cc fld dv v hem hx (R.stay gr) (Evo.grow gr) (R.nown hn) hn hd is
    | stuck =>
      simp only [hf] at p1
      exact p1.elim
/-! ### values by names -/
theorem PK.imp {X : Cx} {kws : List Keyword} {t t' : TA} (h : PK X kws t) (i : ∀ σ H Q, t' σ H Q → t σ H Q) : PK X kws t' := ⟨fun pos pins s σ H Q I q => h.run pos pins s σ H Q I (i σ H Q q)⟩
theorem kw_nil : PK X [] (tA C m true nilA) := PK.imp L2.pk_nil fun σ H Q ⟨ρ, fp, R, p⟩ => p [] H fp R .refl .refl .nil
theorem kw_cons {q' : Bool} {a : Expr} {kws : List Keyword} {nm : Option Str} {kpos : Pos} {fa : M D} (ha : PE X a (tE C m q' .fz fa)) (hr : PK X kws (tA C m q g)) : PK X (⟨nm, a, kpos⟩ :: kws) (tA C m (q' && q) (consA fa g)) := PK.imp (L2.pk_cons ha hr) fun σ H Q ⟨ρ, fp, R, p⟩ => by
  refine ⟨ρ, fp, R, p.bnd.imp fun x ρ1 p1 v1 H1 fp1 F1 R1 e1 q1 r1 => ⟨ρ1, fp1, R1, (p1.later e1).bnd.imp fun ds ρ2 p2 vs H2 fp2 R2 e2 q2 r2 => ?_⟩⟩
  exact p2 (v1 :: vs) H2 fp2 R2 (e1.trans e2) (q1.trans q2) (.cons (r1.1.up (e2.fz R1.ml)) r2)
def callK (f : FD) (is : List Nat) (a : M (List D)) : M D := bnd a fun ds ρ => if ds.length = is.length then match f (permL is ds) with
  | .ok d _ => .ok d ρ
  | .err c d _ => .err c d ρ
  | .stuck => .stuck
  else .stuck
theorem permL_is {K : PySem.W.Frag} {mg : Str → Option Value} {G : Hp} {vs : List V} {ds : List D} (h : IsL K mg G vs ds) : ∀ is : List Nat, IsL K mg G (permL is vs) (permL is ds)
  | [] => .nil
  | i :: is => by
    have r := permL_is h is
    unfold permL at r ⊢
    rw [List.filterMap_cons, List.filterMap_cons]
    cases e : vs[i]? with
    | none =>
      have : ds[i]? = none := by
        have l := h.length
        rw [List.getElem?_eq_none_iff] at e ⊢
        omega
      rw [this]
      exact r
    | some v =>
      obtain ⟨d, h1, h2⟩ := h.get e
      rw [h1]
      exact .cons h2 r
theorem pd_callK {ks : List Str} {kws : List Keyword} {is : List Nat} (A : Agr X C) (F : FnG X.prog X.w X.K X.mg X.base k f fd ps (spF C.K C.mg C.ex rk fD)) (hr : Room k X.A) (hm : X.mg x = some (.ref f)) (hk : PySem.W.keepIn X.K (.ref f) = true)
    (hb : KB0 X.K fd ps ks is) (ha : PK X kws (tA C m q g)) (hli : is.length = ks.length := by rfl) (hem : C.em m := by first | exact True.intro | rfl) (hg : Gl X x := by rfl) (hdb : (x == ("__debug__" : Str)) = false := by decide)
    (hall : (backToKw pos (keywordEach kws X.env)).all (·.1.isSome) = true := by rfl) (hks : (backToKw pos (keywordEach kws X.env)).filterMap (·.1) = ks := by rfl) (hpl : (backToKw pos (keywordEach kws X.env)).any (·.1.isNone) = false := by rfl) :
    PE X (.Call (.Name x p) [] kws pos) (tE C m q rk (callK fD is g)) :=
  PE.imp (pe_callGK (E := WE C.E) F hr A.gd hg hm hk hb (fun σ => passAt A.tk σ) ha hall hks hdb hpl) fun σ H Q ⟨ρ, fp, R, pp⟩ => by
    refine ⟨ρ, fp, R, pp.bnd.imp fun xs ρ1 p1 vs H1 fp1 R1 e1 q1 r1 => ?_⟩
    by_cases hl : xs.length = is.length
    · simp only [hl, if_true] at p1
      refine ⟨by rw [r1.length, hl, hli], own C.M fp1, permL is xs, R1.lv, R1.tab, permL_is r1 is, ?_⟩
      cases hf : fD (permL is xs) with
      | ok d ρ' =>
        simp only [hf] at p1
        intro v H' gr nw
        obtain ⟨F', Rk, rs⟩ := nw.res R1 e1 gr
        exact p1 v H' fp1 F' Rk (e1.mono gr) (q1.grw gr) rs
      | err c d ρ' =>
        simp only [hf] at p1
        exact fun Cc fld dv v H' gr hx hn hd is => p1 m σ H' fp1 Cc fld dv v hem hx (R1.stay gr) (e1.mono gr) (R1.nown hn) (e1.none hn) hd is
      | stuck =>
        simp only [hf] at p1
        exact p1.elim
    · simp only [hl, if_false] at p1
      exact p1.elim
/-! ### a def of the module by its name -/
/-- what a caller must know of it -/
structure Cal (P : Program) (w : World) (K : PySem.W.Frag) (mg : Str → Option Value) (base : Heap) (k : Nat) (x : Str) (ps : List Str) (sp : Sp) : Prop where
  ex : ∃ f fd, mg x = some (.ref f) ∧ PySem.W.keepIn K (.ref f) = true ∧ FnG P w K mg base k f fd ps sp ∧ Binds K fd ps []
/-- .. called by names -/
structure CalK (P : Program) (w : World) (K : PySem.W.Frag) (mg : Str → Option Value) (base : Heap) (k : Nat) (x : Str) (ps ks : List Str) (is : List Nat) (sp : Sp) : Prop where
  ex : ∃ f fd, mg x = some (.ref f) ∧ PySem.W.keepIn K (.ref f) = true ∧ FnG P w K mg base k f fd ps sp ∧ KB0 K fd ps ks is
theorem pd_c (A : Agr X C) (c : Cal X.prog X.w X.K X.mg X.base k x ps (spF C.K C.mg C.ex rk fD)) (hr : Room k X.A) (ha : PA X (e :: es) (tA C m q g)) (hem : C.em m := by first | exact True.intro | rfl) (hg : Gl X x := by rfl) (hdb : (x == ("__debug__" : Str)) = false := by decide)
    (he : starEach (e :: es) X.env = (false, eval e X.env) :: starEach es X.env := by rfl) (hpl : (backTo pos (starEach es X.env)).any (·.1) = false := by rfl) : PE X (.Call (.Name x p) (e :: es) [] pos) (tE C m q rk (callE fD [] g)) := by
  obtain ⟨f, fd, hm, hk, F, hb⟩ := c.ex
  exact pd_callF A F hr hm hk hb ha .nil (fun _ => .nil) hem hg hdb he hpl
theorem pd_c0 (A : Agr X C) (c : Cal X.prog X.w X.K X.mg X.base k x ps (spF C.K C.mg C.ex rk fD)) (hr : Room k X.A) (hem : C.em m := by first | exact True.intro | rfl) (hg : Gl X x := by rfl) (hdb : (x == ("__debug__" : Str)) = false := by decide) : PE X (.Call (.Name x p) [] [] pos) (tE C m true rk (callE fD [] nilA)) := by
  obtain ⟨f, fd, hm, hk, F, hb⟩ := c.ex
  exact pd_callF0 A F hr hm hk hb .nil (fun _ => .nil) hem hg hdb
theorem pd_cIO (A : Agr X C) (c : Cal X.prog X.w X.K X.mg X.base k x ps (spIO C.K C.mg l fD)) (hr : Room k X.A) (hi : m[i]? = some (.ow l)) (hN : X.N[i]? = some y) (ha : PA X es (tA C m q g))
    (hv : Vis X.env.scope y := by first | exact Or.inl rfl | exact Or.inr (Or.inl rfl) | exact Or.inr (Or.inr rfl)) (hyd : (y == ("__debug__" : Str)) = false := by decide) (hcd : (y == ("__classdict__" : Str)) = false := by decide) (hg : Gl X x := by rfl) (hdb : (x == ("__debug__" : Str)) = false := by decide)
    (he : starEach (.Name y p0 :: es) X.env = (false, eval (.Name y p0) X.env) :: starEach es X.env := by rfl) (hpl : (backTo pos (starEach es X.env)).any (·.1) = false := by rfl) : PE X (.Call (.Name x p) (.Name y p0 :: es) [] pos) (tE C m false .fz (callIO fD i g)) := by
  obtain ⟨f, fd, hm, hk, F, hb⟩ := c.ex
  exact pd_callIO A F hr hm hk hb hi hN ha hv hyd hcd hg hdb he hpl
theorem pd_cK {ks : List Str} {kws : List Keyword} {is : List Nat} (A : Agr X C) (c : CalK X.prog X.w X.K X.mg X.base k x ps ks is (spF C.K C.mg C.ex rk fD)) (hr : Room k X.A) (ha : PK X kws (tA C m q g)) (hli : is.length = ks.length := by rfl) (hem : C.em m := by first | exact True.intro | rfl) (hg : Gl X x := by rfl) (hdb : (x == ("__debug__" : Str)) = false := by decide)
    (hall : (backToKw pos (keywordEach kws X.env)).all (·.1.isSome) = true := by rfl) (hks : (backToKw pos (keywordEach kws X.env)).filterMap (·.1) = ks := by rfl) (hpl : (backToKw pos (keywordEach kws X.env)).any (·.1.isNone) = false := by rfl) :
    PE X (.Call (.Name x p) [] kws pos) (tE C m q rk (callK fD is g)) := by
  obtain ⟨f, fd, hm, hk, F, hb⟩ := c.ex
  exact pd_callK A F hr hm hk hb ha hli hem hg hdb hall hks hpl
end
end Dn

/-! DnO -/
set_option Elab.async false
set_option linter.all false
set_option maxRecDepth 100000
/-! Dn, part O: exceptions. -/
namespace Dn
open PySem PySem.Spec PyProof.Rows L2
variable [LamTab]
/-! ### an own class's __init__ -/
/-- W.__init__(self, ..), W an own class that has ValueError's -/
theorem pe_winit {X : Cx} {x : Str} {Cw : Addr} {e : Expr} {es : List Expr} {ta : TA} {p1 p2 pos : Pos} {pl : Sem Bool} (hg : Gl X x) (hm : X.mg x = some (.ref Cw)) (hsp : PySem.W.specialIn X.K (.ref Cw) "__getattribute__" = some (some (.builtin "type.__getattribute__"))) (hr : PySem.W.readsIn X.K Cw (.type "type") = true)
    (vV : PySem.W.findCls X.K (.ref Cw) (.type "type") "__init__" = some (.val (.builtin "ValueError.__init__"))) (ha : PA X (e :: es) ta)
    (hc : eval (.Call (.Attribute (.Name x p1) "__init__" p2) (e :: es) [] pos) X.env = (do
      let ov ← eval (.Name x p1) X.env
      standAt p2.atName
      let (f, first) ← holding [ov] (getMethod ov "__init__" pl)
      callWith pos f first (backTo pos (starEach (e :: es) X.env)) (backToKw pos (keywordEach [] X.env))) := by rfl) (hdb : (x == ("__debug__" : Str)) = false := by decide)
    (he : starEach (e :: es) X.env = (false, eval e X.env) :: starEach es X.env := by rfl) (hpl : (backTo pos (starEach es X.env)).any (·.1) = false := by rfl) :
    PE X (.Call (.Attribute (.Name x p1) "__init__" p2) (e :: es) [] pos) (tVeI X.K ta) := by
  refine ⟨fun pins s σ H Q I h => ?_⟩
  refine PySem.W.methodCall_KW (ld_glob I hg hm ?_ hdb) hc
  refine PySem.W.method_cls I.kIn hsp (PySem.W.cls_value I.kIn hr vV (by decide +kernel) ?_)
  show wpAny _ _ (callWith pos (Value.builtin "ValueError.__init__") [] (backTo pos (starEach (e :: es) X.env)) []) _ _ _
  refine PyProof.Rows.callWith_method1 (thn (ha.run pos pins _ σ H _ (I.tok _) h) fun us s1 ⟨vs, H1, I1, r1, a, C, ws, ev, hl, T, ea, q⟩ => ?_) he hpl
  subst ev
  cases r1 with
  | @cons _ u0 _ ur ra rest =>
    obtain rfl : u0 = Value.ref a := ra
    have hlen : ur.length ≤ sizeLine := by
      rw [← Paired.length rest, sizeLine_eq]
      omega
    exact oinit_ok T I1 ea hlen fun s' J => ⟨.non, H1, J, rfl, q⟩
/-- __init__(self, y): self.f = y -/
def spE (K : PySem.W.Frag) (C : Addr) (f : Str) : Sp := fun vs H Q _ => ∃ (a : Addr) (y : V), vs = [.ref a, y] ∧ OexC K C ∧ PySem.W.findIn K (.ref C) f = some none ∧ H a = some (exo a C none) ∧ ∀ dx, H dx = none → dx ≠ a → Q .non (upd (upd H dx (exd dx [(f, y)])) a (exo a C (some dx)))
/-- the body: W.__init__(self, 'text'); self.f = y -/
def tIni (K : PySem.W.Frag) (fl z : Str) : TS := tSeq (tDrop (tVeI K (tCons (tVar 0) (tCons (tC (.str z)) tNil)))) (tOst K fl (tVar 0) (tVar 1))
theorem okE {P : Program} {w : World} {K : PySem.W.Frag} {mg : Str → Option Value} {base : Heap} {x qual y fl z : Str} {params : Arguments} {body : List Stmt} {scope : Scope} {dfv : List V} {kws : List (Str × V)} {f C : Addr} {fd : FuncData} {k : Nat}
    (F : FunD K x qual params body scope dfv kws f fd) (S : FnScope ["self", y] ["self", y] scope)
    (der : ∀ (cdv : Value) (A : Around) (outer : List PySem.Env) (s : Shared) (H : Hp) (E : XK), PSs (cxOf (L2.CX P w) P w K mg base ["self", y] qual scope f cdv A outer s H E) body (tIni K fl z)) :
    FnOk P w K mg base (L2.CX P w) (k + 1) f fd ["self", y] (spE K C fl) := by
  refine F.ok S (fun vs H Q E ⟨a, y, e, _⟩ => by rw [e]; rfl) fun cdv A outer s H vs Q E hr2 ⟨a, yv, ev, T, hno, ha, hq⟩ => ?_
  subst ev
  refine ⟨_, der cdv A outer s H E, ?_⟩
  refine ⟨.ref a, rfl, a, C, [.str z], rfl, (by show 1 ≤ 1000; decide), T, ha, yv, rfl, .ref a, rfl, a, C, rfl, T, hno, .inl ⟨ha, fun dx h1 h2 => ?_⟩⟩
  exact hq dx h1 h2
/-! ### raise -/
section
variable {X : Cx} {C : Cd} {m mn mb mc : List Mode} {q : Bool} {e : Expr} {g : M D} {x c fl : Str} {Cc fI : Addr} {k : Nat} {fd : FuncData} {ps : List Str} {p pos : Pos}
/-- raise X(e), X an own class with such an __init__ -/
theorem sd_raise (A : Agr X C) (T : OexC X.K Cc) (iC : PySem.W.findIn X.K (.ref Cc) "__init__" = some (some (.ref fI))) (tI : PySem.W.typeIn X.K (.ref fI) = some (.type "function")) (F : FnOk X.prog X.w X.K X.mg X.base (L2.CX X.prog X.w) k fI fd ps (spE X.K Cc fl)) (hno : PySem.W.findIn X.K (.ref Cc) fl = some none) (hr : Room (k + 1) X.A)
    (hb : Binds X.K fd ps []) (hm : X.mg x = some (.ref Cc)) (hex : C.ex c Cc fl) (he : PE X e (tE C m q .fz g)) (hem : C.em m := by first | exact True.intro | rfl) (hc : X.calm = true := by rfl) (hg : Gl X x := by rfl) (hdb : (x == ("__debug__" : Str)) = false := by decide)
    (hs : starEach (e :: []) X.env = (false, eval e X.env) :: starEach [] X.env := by rfl) (hpl : (backTo pos (starEach [] X.env)).any (·.1) = false := by rfl) {pos2 : Pos} : PS X (.Raise (some (.Call (.Name x p) [e] [] pos)) none pos2) (tS C m mn mb mc (rai c g)) :=
  PS.imp (ps_raise hc A.tk (pmk_oex (dvs := []) T iC tI F hr hb .nil (fun _ _ _ _ _ _ _ h => passL _ _ _ _ _ _ ‹_› h) hg hm (pa_cons he pa_nil hs) hdb hs hpl)) fun D σ H ⟨ρ, fp, R, pp⟩ => by
    refine ⟨ρ, fp, R, pp.bnd.imp fun y ρ1 p1 v H1 fp1 F1 R1 e1 q1 r1 => ⟨by show 1 ≤ 1000; decide, fun a ha => ⟨a, v, rfl, T, hno, upd_same, fun dx h1 h2 => ⟨rfl, dx, [(fl, v)], upd_same, by rw [upd_ne h2, upd_same], by rw [upd_ne h2] at h1; exact h1, ?_⟩⟩⟩⟩
    have h1' : H1 dx = none := by rw [upd_ne h2] at h1; exact h1
    have eH : upd (del (upd (upd (upd H1 a (exo a Cc none)) dx (exd dx [(fl, v)])) a (exo a Cc (some dx))) a) dx (.xd [(fl, v)]) = upd H1 dx (.xd [(fl, v)]) := by
      funext b
      by_cases hb : b = dx
      · rw [hb, upd_same, upd_same]
      · rw [upd_ne hb, upd_ne hb]
        by_cases hba : b = a
        · rw [hba, del_same, ha]
        · rw [del_ne hba, upd_ne hba, upd_ne hb, upd_ne hba]
    rw [eH]
    have p1 : Errs C c y ρ1 fp H := p1
    exact p1 m σ _ fp1 Cc fl dx v hem hex (R1.stay (Gr.upd h1')) (e1.mono (Gr.upd h1')) (R1.nown h1') (e1.none h1') upd_same (r1.1.up (hide_up (grow.upd h1')))
end
/-! ### try -/
/-- in the try's body: what is caught goes to W, at modes from which mh is come to -/
def Cd.tr (C : Cd) (W : WX) (is : List Nat) (mh : List Mode) : Cd := { C with E := W, em := fun m' => conv is 0 m' mh = true }
/-- in the suite: a stands in slot i, its dict tells the datum -/
def Cd.su (C : Cd) (i : Nat) (a dd : Addr) (f : Str) (d : D) : Cd := { C with E := fun _ _ _ _ => False, io := i :: C.io, iv := fun j => if j = i then .ref a else C.iv j, px := some (dd, f, d) }
/-- try: s except c as slot i: h -/
def tryS (s : S) (c : Str) (is : List Nat) (i : Nat) (h : D → S) : S := fun ρ => match s ρ with
  | .err c' d ρ' => if c' = c ∧ i < ρ'.length then match h d (forget [i] (forget is ρ')) with
      | .ok f ρ2 => .ok f (forget [i] ρ2)
      | _ => .stuck
    else .stuck
  | o => o
section
variable {X : Cx} {C : Cd} {m mh mn mb mc : List Mode} {s : S} {h : D → S} {is : List Nat} {i : Nat} {x n c fl : Str} {Cc : Addr} {body suite : List Stmt} {b₀ : Stmt} {np pos pos' : Pos} {ρ : Env} {σ : L2.St} {fp : Fp} {H : Hp}
theorem PSs.all {α : Sort _} {sts : List Stmt} {t : α → TS} (h : ∀ x, PSs X sts (t x)) : PSs X sts (fun D σ H => ∃ x, t x D σ H) := ⟨fun pins s σ H D I ⟨x, q⟩ => (h x).run pins s σ H D I q⟩
theorem PSs.pre {p : Prop} {sts : List Stmt} {t : TS} (h : p → PSs X sts t) : PSs X sts (fun D σ H => p ∧ t D σ H) := ⟨fun pins s σ H D I ⟨x, q⟩ => (h x).run pins s σ H D I q⟩
theorem Rep.tr {W : WX} (R : Rep (C.tr W is mh) m ρ σ H fp) : Rep C m ρ σ H fp := ⟨R.slot, R.len, R.dis, R.non, R.msk, R.lv, R.io, R.px, R.tab⟩
theorem Rep.toTr {W : WX} (R : Rep C m ρ σ H fp) : Rep (C.tr W is mh) m ρ σ H fp := ⟨R.slot, R.len, R.dis, R.non, R.msk, R.lv, R.io, R.px, R.tab⟩
theorem RepK.tr {W : WX} {k : Kd} {F : Ad} (R : RepK (C.tr W is mh) k F m ρ σ H fp) : RepK C k F m ρ σ H fp := by
  cases k with
  | fz => exact Rep.tr R
  | new n => exact Rep.tr (C := C.plus F) R
  | bor n => exact Rep.tr R
/-- into the suite -/
theorem Rep.toSu {a dd : Addr} {d : D} {v : V} (R : Rep C m ρ σ H fp) (hi : i ∉ C.io) (hm : m[i]? = some .fz) (hl : i < σ.length) (hd : hide (own C.M fp) H dd = some (.xd [(fl, v)])) (is : Is C.K C.mg (hide (own C.M fp) H) v d) : Rep (C.su i a dd fl d) m (forget [i] ρ) (σ.set i (some (.ref a))) H fp where
  slot := fun j e q => by
    obtain ⟨q1, q2⟩ := forget_some q
    obtain ⟨w, h1, h2⟩ := R.slot j e q1
    exact ⟨w, by rw [List.getElem?_set_ne fun z => q2 (by rw [z]; exact List.mem_singleton.mpr rfl)]; exact h1, h2⟩
  len := by rw [forget_len, List.length_set]; exact R.len
  dis := R.dis
  non := R.non
  msk := R.msk
  lv := R.lv
  io := fun j hj => by
    by_cases e : j = i
    · subst e
      rw [List.getElem?_set_self hl]
      show _ = some (some (if j = j then V.ref a else C.iv j))
      rw [if_pos rfl]
    · rw [List.getElem?_set_ne fun z => e z.symm]
      show _ = some (some (if j = i then V.ref a else C.iv j))
      rw [if_neg e]
      rcases List.mem_cons.mp (show j ∈ i :: C.io from hj) with z | z
      · exact absurd z e
      · exact R.io j z
  px := ⟨v, hd, is⟩
  tab := R.tab
/-- out of it (the name is gone) -/
theorem Rep.ofSu {a dd : Addr} {d : D} (R : Rep (C.su i a dd fl d) m ρ σ H fp) (hi : i ∉ C.io) (px : C.px = none) : Rep C m (forget [i] ρ) (σ.set i none) H fp where
  slot := fun j e q => by
    obtain ⟨q1, q2⟩ := forget_some q
    obtain ⟨w, h1, h2⟩ := R.slot j e q1
    exact ⟨w, by rw [List.getElem?_set_ne fun z => q2 (by rw [z]; exact List.mem_singleton.mpr rfl)]; exact h1, h2⟩
  len := by rw [forget_len, List.length_set]; exact R.len
  dis := R.dis
  non := R.non
  msk := R.msk
  lv := R.lv
  io := fun j hj => by
    have e : j ≠ i := fun z => hi (by rw [← z]; exact hj)
    rw [List.getElem?_set_ne fun z => e z.symm]
    have := R.io j (List.mem_cons_of_mem _ hj)
    rw [this]
    show some (some (if j = i then V.ref a else C.iv j)) = _
    rw [if_neg e]
  px := by rw [px]; trivial
  tab := R.tab
theorem RepK.ofSu {k : Kd} {F : Ad} {a dd : Addr} {d : D} (hi : i ∉ C.io) (px : C.px = none) (R : RepK (C.su i a dd fl d) k F m ρ σ H fp) : RepK C k F m (forget [i] ρ) (σ.set i none) H fp := by
  cases k with
  | fz => exact Rep.ofSu R hi px
  | new n => exact Rep.ofSu (C := C.plus F) R hi px
  | bor n => exact Rep.ofSu R hi px
theorem sd_try (A : AgS X C) (px : C.px = none) (hN : X.N[i]? = some n) (hi : fzSl C.io mh [i] = true) (hm : X.mg x = some (.ref Cc)) (hex : ∀ Cc' fl', C.ex c Cc' fl' → Cc' = Cc ∧ fl' = fl) (hmm : PySem.W.exmOne X.K (.ref Cc) (.ref Cc) = some true)
    (hb : ∀ (W : WX) (pn : List (Addr × Obj)) (xe : Value → Shared → Prop), AgS (X.tr pn xe) (C.tr W is mh) → PSs (X.tr pn xe) body (tS (C.tr W is mh) m mn mb mc s))
    (hsu : ∀ (a dd : Addr) (d : D) (oe : Obj) (pn : List (Addr × Obj)), Agr (X.suite a ((a, oe) :: pn)) (C.su i a dd fl d) → Zc (.ref Cc) (some dd) oe → (∃ vs, oe.data = .fields vs) → PSs (X.suite a ((a, oe) :: pn)) (b₀ :: suite) (tS (C.su i a dd fl d) mh mn mb mc (h d)))
    (hu : (X.A.mark (some (.ref 0))).units = X.A.units := by rfl) (hst : X.stack = X.env :: X.outer := by rfl) (hfr : X.env.frame = some X.env.locals := by rfl) (hln : X.env.kindOf n = some .local := by rfl) (hg : Gl X x := by rfl) (hdb : (x == ("__debug__" : Str)) = false := by decide) :
    PS X (.Try body [.ExceptHandler (some (.Name x np)) (some n) (b₀ :: suite) pos'] [] [] pos) (tS C m mn mb mc (tryS s c is i h)) := by
  have hi' := fzSl_at hi i (List.mem_cons_self ..)
  refine PS.imp (ps_try_as (tb := fun W => tS (C.tr W is mh) m mn mb mc s) (ts := fun a cls dd => fun E1 σ H => ∃ (d : D) (dx : Addr), (cls = .ref Cc ∧ dd = some dx) ∧ tS (C.su i a dx fl d) mh mn mb mc (h d) E1 σ H) (c := .ref Cc) hst hfr A.nd hN hln ⟨hg, hdb, .inl hm⟩ A.tk (fun W pn xe tk ow => hb W pn xe ⟨⟨A.K, A.mg, A.nd, tk, A.hu, A.gd⟩, ow⟩) ?_) ?_
  · intro a oe cls dd pn hz hf
    refine PSs.all fun d => PSs.all fun dx => PSs.pre fun ⟨e1, e2⟩ => ?_
    subst e1 e2
    exact hsu a dx d oe pn ⟨A.K, A.mg, A.nd, takes0, A.hu, A.gd⟩ hz hf
  · rintro D σ H ⟨ρ, fp, R, pp⟩
    refine ⟨ρ, fp, R.toTr, ?_⟩
    unfold tryS at pp
    cases hs : s ρ with
    | ok f ρ' =>
      rw [hs] at pp
      cases f with
      | next => exact fun σ' H' fp' R' e' => pp σ' H' fp' R'.tr e'
      | brk => exact fun σ' H' fp' R' e' => pp σ' H' fp' R'.tr e'
      | cont => exact fun σ' H' fp' R' e' => pp σ' H' fp' R'.tr e'
      | rt d => exact fun v m' σ' H' fp' F R' io e' r => pp v m' σ' H' fp' F R'.tr io e' r
    | err c' d ρ' =>
      rw [hs] at pp
      by_cases hc : c' = c ∧ i < ρ'.length
      · have hc' := hc
        obtain ⟨rfl, hlen⟩ := hc'
        intro m' σ' H' fp' Cc' fl' dx v em ex R' e' no hn hd is'
        obtain ⟨rfl, rfl⟩ := hex Cc' fl' ex
        refine ⟨true, hmm, fun _ a ha => ⟨d, dx, ⟨rfl, rfl⟩, ?_⟩, fun z => nomatch z⟩
        have R1 := (R'.tr (C := C)).conv (is := is) em
        have hl : i < σ'.length := by rw [← R'.len]; exact hlen
        have lo : ∀ b, own C.M (cut mh fp') b → own C.M fp' b := fun b z => z.elim .inl fun ⟨j, y⟩ => .inr ⟨j, y.2⟩
        have ed : hide (own C.M (cut mh fp')) H' dx = some (.xd [(fl', v)]) := hide_of (fun z => no (lo dx z)) hd
        have R2 := R1.toSu (a := a) hi'.1 hi'.2 hl ed (is'.up (hide_less lo))
        refine ⟨_, _, R2, ?_⟩
        have ev : Evo fp H (cut mh fp') H' := e'.trans Evo.cut
        simp only [hc, and_self, if_true] at pp
        cases hh : h d (forget [i] (forget is ρ')) with
        | ok f ρ2 =>
          simp only [hh] at pp
          cases f with
          | next => exact fun σ2 H2 fp2 R3 e3 => pp _ H2 fp2 (R3.ofSu hi'.1 px) (ev.trans e3)
          | brk => exact fun σ2 H2 fp2 R3 e3 => pp _ H2 fp2 (R3.ofSu hi'.1 px) (ev.trans e3)
          | cont => exact fun σ2 H2 fp2 R3 e3 => pp _ H2 fp2 (R3.ofSu hi'.1 px) (ev.trans e3)
          | rt dd => exact fun v m2 σ2 H2 fp2 F2 R3 io e3 r3 => pp v m2 _ H2 fp2 F2 (RepK.ofSu hi'.1 px R3) io (ev.trans e3) (r3.earlier ev)
        | err _ _ _ => simp only [hh] at pp; exact pp.elim
        | stuck => simp only [hh] at pp; exact pp.elim
      · simp only [if_neg hc] at pp
        exact pp.elim
    | stuck => rw [hs] at pp; exact pp.elim
/-- error.f in the suite -/
theorem pd_err {a dd : Addr} {d : D} {oe : Obj} {pn : List (Addr × Obj)} {p pos : Pos} {m : List Mode} (T : XfC X.K Cc) (hno : PySem.W.findIn X.K (.ref Cc) fl = some none) (hz : Zc (.ref Cc) (some dd) oe) (hf : ∃ vs, oe.data = .fields vs) (hN : X.N[i]? = some n)
    (hv : Vis X.env.scope n := by first | exact Or.inl rfl | exact Or.inr (Or.inl rfl) | exact Or.inr (Or.inr rfl)) (hnd : (n == ("__debug__" : Str)) = false := by decide) (hcd : (n == ("__classdict__" : Str)) = false := by decide)
    (hb : attributeBase (.Name n p) fl (X.suite a ((a, oe) :: pn)).env (eval (.Name n p) (X.suite a ((a, oe) :: pn)).env) = eval (.Name n p) (X.suite a ((a, oe) :: pn)).env := by rfl) :
    PE (X.suite a ((a, oe) :: pn)) (.Attribute (.Name n p) fl pos) (tE (C.su i a dd fl d) m true .fz (lit d)) :=
  PE.imp (pe_xf T hno hz hf (pe_var (X := X.suite a ((a, oe) :: pn)) hN hv hnd hcd) hb) fun σ H Q ⟨ρ, fp, R, p⟩ => by
    have h1 := R.io i (List.mem_cons_self ..)
    have h2 : (C.su i a dd fl d).iv i = .ref a := if_pos rfl
    rw [h2] at h1
    obtain ⟨v, g1, g2⟩ : PxOk C.K C.mg (hide (own C.M fp) H) (some (dd, fl, d)) := R.px
    exact ⟨.ref a, h1, rfl, rfl, dd, [(fl, v)], v, rfl, (hide_at g1).2, by simp [List.lookup], p v H fp (fun _ => False) R .refl .refl ⟨g2, fun _ z => z⟩⟩
end
end Dn

/-! DnP -/
set_option Elab.async false
set_option linter.all false
set_option maxRecDepth 100000
/-! Dn, part P: repr, joins and slices of any sequence, more methods. -/
namespace Dn
open PySem PySem.Spec PyProof.Rows L2
variable [LamTab]
/-! ### repr -/
/-- repr of plain data -/
def reprD : Op1 := fun d => if pl 60 d && (d.showable && decide (d.shown.length ≤ lineN)) then some (.str d.shown) else none
def rRepr (K : PySem.W.Frag) : List V → Hp → VK → Prop := fun xs H Q => ∃ (x : V) (d : D), xs = [x] ∧ Dp K H x d ∧ pl 60 d = true ∧ d.showable = true ∧ d.shown.length ≤ sizeLine ∧ Q (.str d.shown) H
theorem cr_repr {X : Cx} (hg : X.A.guards = some []) (hu : X.A.units + 65 < cLine) : CallR X (.builtin "repr") (rRepr X.K) := by
  intro pins s σ H xs us Q I r h
  obtain ⟨x, d, rfl, hd, hp, hs, hz, q⟩ := h
  obtain ⟨u, rfl, ru⟩ := r.one
  obtain ⟨as, rd⟩ := Dp.reads I d x u hd ru
  have dep := (pl_shape hp).2
  have fin : ∀ (z : Str) (t : Tok) (s' : Shared), z = d.shown → Inv X pins σ H s' → EP X pins σ Q (.str z t) s' := fun z t s' e J => ⟨.str z, H, J, ⟨t, rfl⟩, by rw [e]; exact q⟩
  cases rd with
  | none => exact P.repr_of_none (fin _ _ _ rfl (I.tok _))
  | bool b => exact P.repr_of_bool (fin _ _ _ (by cases b <;> rfl) (I.tok _))
  | int i t => exact P.repr_of_int (of_decide_eq_true hs) (fin _ _ _ rfl (I.tok _))
  | str z t => exact P.repr_of_str (fin _ _ _ rfl (I.tok _)) hz
  | list h1 h2 h3 h4 => exact repr_of_reads' (.list h1 h2 h3 h4) hs (PyData.noDict_hsm (PyData.hasDict_of_canLay _ (pl_shape hp).1)) hg (by omega) (fun _ _ e => e) (fun h' t tk k => fin _ _ _ rfl (I.kept k)) hz
  | tuple h1 h2 h3 h4 => exact repr_of_reads' (.tuple h1 h2 h3 h4) hs (PyData.noDict_hsm (PyData.hasDict_of_canLay _ (pl_shape hp).1)) hg (by omega) (fun _ _ e => e) (fun h' t tk k => fin _ _ _ rfl (I.kept k)) hz
  | dict h1 h2 h3 h4 h5 => simp [pl] at hp
theorem f_repr {K : PySem.W.Frag} {mg : Str → Option Value} : FnA K mg .fz (rRepr K) fun ds => match ds with
    | [d] => reprD d
    | _ => none := fun O H xs ds u Q lv h hf k => by
  match ds, h, hf with
  | [d], .cons a .nil, hf =>
    have hf : reprD d = some u := hf
    unfold reprD at hf
    split at hf
    · rename_i c
      cases hf
      simp only [Bool.and_eq_true, decide_eq_true_eq] at c
      exact ⟨_, d, rfl, (a.up hide_grow).dp c.1, c.1, c.2.1, by rw [← lineN_eq]; exact c.2.2, k _ H Gr.refl (.str _)⟩
    · cases hf
def repr1 (ds : List D) : Option D := match ds with
  | [d] => reprD d
  | _ => none
section
variable {X : Cx} {C : Cd} {m : List Mode} {q q' q1 q2 q3 : Bool} {a b e : Expr} {fa fb : M D} {g : M (List D)} {pos p apos cpos : Pos} {k ka kb : Kd} {lo hi : Option Expr} {fl fh : PartM}
theorem pd_repr (A : Agr X C) (hm : X.mg "repr" = none) (ha : PE X a (tE C m q .fz fa)) (hg : Gl X "repr" := by rfl) (hs : starEach (a :: []) X.env = (false, eval a X.env) :: starEach [] X.env := by rfl) (hpl : (backTo pos (starEach [] X.env)).any (·.1) = false := by rfl) :
    PE X (.Call (.Name "repr" p) (a :: []) [] pos) (tE C m (q && true) .fz (app repr1 (consA fa nilA))) := pd_bA (r := rRepr C.K) (f := repr1) f_repr (by rw [← A.K]; exact cr_repr A.gd A.hu) (by rfl) hm (pa_consD ha pa_nilD hs) hg (by decide) (by decide) hs hpl
/-! ### + of any two (frozen) -/
def rAddU (K : PySem.W.Frag) : R2 := fun x y H Q => rI0 (fun i j => .int (i + j)) x y H Q ∨ (∃ i k, x = .int i ∧ y = .bl k ∧ Q (.int (i + b2i k)) H) ∨ (∃ i j, x = .str i ∧ y = .str j ∧ i.length + j.length ≤ sizeLine ∧ Q (.str (i ++ j)) H) ∨ rCatA K x y H Q ∨ rCatR x y H Q
def addU : Op2 := fun d e => match d, e with
  | .int i, .int j => some (.int (i + j))
  | .str x, .str y => catS (.str x) (.str y)
  | .tuple xs, .tuple ys => catT (.tuple xs) (.tuple ys)
  | .list xs, .list ys => catL (.list xs) (.list ys)
  | _, _ => none
theorem Nw.frz {K : PySem.W.Frag} {mg : Str → Option Value} {O : Ad} {H H' : Hp} {n : Nat} {v : V} {u : D} (h : Nw K mg (.new n) O H H' v u) : Is K mg (hide O H') v u := by
  obtain ⟨F, h1, h2⟩ := h
  exact h1.is (hide_less fun a z => .inl z) fun a o z y _ => hide_of (h2 a z).1 y
theorem o_addU {K : PySem.W.Frag} {mg : Str → Option Value} : OpD K mg (rAddU K) addU := fun O H x y d e u Q lv hx hy hf k => by
  unfold addU at hf
  split at hf
  · cases hf
    exact .inl ⟨_, _, hx.int_of, hy.int_of, k _ H Gr.refl (.int _)⟩
  · exact .inr (.inr (.inl (o_catS.d O H x y _ _ u Q lv hx hy hf k)))
  · exact .inr (.inr (.inr (.inl (o_catT O H x y _ _ u Q lv hx hy hf k))))
  · exact .inr (.inr (.inr (.inr (o_catL O H x y _ _ u Q lv (.inl hx) (.inl hy) hf fun v H' g n => k v H' g n.frz))))
  · cases hf
theorem op_addU : OpR X (binaryOp .Add) (rAddU X.K) := op_add.or (op_add_ib.or (op_add_str.or (op_catA.or op_catR)))
theorem pd_add (A : Agr X C) (ha : PE X a (tE C m q .fz fa)) (hb : PE X b (tE C m q' .fz fb)) : PE X (.BinOp a .Add b pos) (tE C m (q && q') .fz (bin addU fa fb)) := pd_bin o_addU (by rw [← A.K]; exact op_addU) ha hb
/-! ### slices of a list or a tuple, frozen -/
def slU (x : D) (lo hi : Option Int) : Option D := match x with
  | .tuple xs => some (.tuple (cutL xs lo hi))
  | .list xs => some (.list (cutL xs lo hi))
  | _ => none
def sliU (a : M D) (lo hi : PartM) : M D := bnd a fun x => bnd lo fun l => bnd hi fun h => lft (slU x l h)
theorem s_U {K : PySem.W.Frag} {mg : Str → Option Value} : SlV K mg .fz (fun x lo hi H Q => rSlA K x lo hi H Q ∨ rSlL K x lo hi H Q) slU := fun O H x d u lo hi Q lv h hf k => by
  cases d with
  | tuple ds => exact .inl (s_tup O H x _ u lo hi Q lv h hf k)
  | list ds => exact .inr (s_lst O H x _ u lo hi Q lv h hf fun v H' g n => k v H' g n.frz)
  | _ => cases hf
theorem pd_sli {p2 : Pos} (A : Agr X C) (ha : PE X a (tE C m q1 ka fa)) (hl : PO X lo (tP C m q2 fl)) (hh : PO X hi (tP C m q3 fh)) (hk : vwK ka = true := by rfl) (hq : ka = .fz ∨ (q2 = true ∧ q3 = true) := by first | exact .inl rfl | exact .inr ⟨rfl, rfl⟩) :
    PE X (.Subscript a (.Slice lo hi none p2) pos) (tE C m (q1 && (q2 && q3)) .fz (sliU fa fl fh)) := PE.imp (pe_slice (by rw [← A.K]; exact SlR.or sl_tupA sl_list) ha hl hh) fun _ _ _ h => slice_of (r := fun x lo hi H Q => rSlA C.K x lo hi H Q ∨ rSlL C.K x lo hi H Q) s_U hk hq h
/-! ### * -/
/-- a new list again and again (a fresh display), a tuple so -/
def repTD : Op2 := fun d e => match d, e with
  | .tuple xs, .int k => if xs ≠ [] ∧ 2 ≤ k ∧ k ≤ 1000 ∧ xs.length ≤ 1000 then some (.tuple (List.replicate k.toNat xs).flatten) else none
  | _, _ => none
theorem o_repT {K : PySem.W.Frag} {mg : Str → Option Value} : OpD K mg (rRepT K) repTD := fun O H x y d e u Q lv hx hy hf k => by
  unfold repTD at hf
  split at hf
  · split at hf
    · rename_i xs kk c
      cases hf
      obtain ⟨a, vs, rfl, h1, h2⟩ := hx.tuple_of
      refine ⟨a, kk, vs, rfl, hy.int_of, SqT.up hide_grow h1, fun z => c.1 ?_, c.2.1, c.2.2.1, by rw [h2.length]; exact c.2.2.2, fun p hp => k _ _ (Gr.upd hp) (nw_tup lv hp (h2.flatRep _))⟩
      subst z
      cases h2
      rfl
    · cases hf
  · cases hf
theorem pd_repT (A : Agr X C) (ha : PE X a (tE C m q .fz fa)) (hb : PE X b (tE C m q' .fz fb)) : PE X (.BinOp a .Mult b pos) (tE C m (q && q') .fz (bin repTD fa fb)) := pd_bin o_repT (by rw [← A.K]; exact op_repT) ha hb
theorem pd_repL (ha : PE X a (tE C m q (.new 1) fa)) (hb : PE X b (tE C m true .fz fb)) : PE X (.BinOp a .Mult b pos) (tE C m q (.new 1) (bin repL fa fb)) := PE.imp (pe_op op_rep ha hb) fun σ H Q ⟨ρ, fp, R, p⟩ => by
  refine ⟨ρ, fp, R, p.bnd.imp fun x ρ1 p1 v1 H1 fp1 F1 R1 e1 q1 r1 => ⟨ρ1, fp1, R1.rep, (p1.later e1).bnd.imp fun y ρ2 p2 v2 H2 fp2 F2 R2 e2 q2 r2 => ?_⟩⟩
  obtain ⟨u, hu, kk⟩ := p2.lft
  obtain ⟨rfl, rfl, g⟩ := q2 rfl
  unfold repL at hu
  split at hu
  · split at hu
    · rename_i xs n c
      cases hu
      obtain ⟨a, vs, F0, rfl, h1, h2, _⟩ := Ow.lst r1.1
      have R2 := R2.rep
      have il : IsL C.K C.mg (hide (own C.M fp2) H2) vs xs := h2.is.1.up ((hide_up g.g).trans (hide_less fun a z => .inl z))
      refine ⟨a, n, vs, rfl, r2.1.int_of, g.g _ _ h1 nt_lst, c.1, c.2.1, by rw [il.length, ← lineN_eq]; exact c.2.2, fun p hp => ?_⟩
      have nw : Nw C.K C.mg (.new 1) (own C.M fp2) H2 _ _ _ := nw_lst R2.live hp (il.flatRep n.toNat)
      obtain ⟨F, Rk, rs⟩ := nw.res R2 (e1.trans e2) (Gr.upd hp)
      exact kk _ _ fp2 F Rk ((e1.trans e2).mono (Gr.upd hp)) (fun z => ⟨(q1 z).1, (q1 z).2.1, ((q1 z).2.2.trans g).trans (Gr.upd hp)⟩) rs
    · cases hu
  · cases hu
/-! ### x.index(y) of a list -/
def indexL (d : D) : List D → Nat → Option Nat
  | [], _ => none
  | x :: xs, i => if PyData.eqv x d then some i else indexL d xs (i + 1)
def indexD : Op2 := fun l d => match l with
  | .list xs => if pl 60 (.list xs) && pl 60 d then (indexL d xs 0).map fun (i : Nat) => PyData.int (i : Int) else none
  | _ => none
theorem indexL_at {d : D} : ∀ {xs : List D} {i j : Nat}, indexL d xs i = some j → ∃ l z, j = i + l ∧ xs[l]? = some z ∧ PyData.eqv z d = true ∧ ∀ m z', m < l → xs[m]? = some z' → PyData.eqv z' d = false
  | [], _, _, h => by cases h
  | x :: xs, i, j, h => by
    unfold indexL at h
    split at h
    · rename_i c
      cases h
      exact ⟨0, x, rfl, rfl, c, fun m z' l => absurd l (Nat.not_lt_zero m)⟩
    · rename_i c
      obtain ⟨l, z, h1, h2, h3, h4⟩ := indexL_at h
      refine ⟨l + 1, z, by omega, by simpa using h2, h3, fun m z' lm hz => ?_⟩
      cases m with
      | zero =>
        simp at hz
        subst hz
        simpa using c
      | succ m => exact h4 m z' (by omega) (by simpa using hz)
def idxE (fa fb : M D) : M D := bnd fa fun x => if isL x = true then bnd fb fun y => lft (indexD x y) else stk
theorem pd_index (A : Agr X C) (ha : PE X a (tE C m q .fz fa)) (he : PE X e (tE C m q' .fz fb)) (hbase : attributeBase a "index" X.env (eval a X.env) = eval a X.env := by rfl)
    (hfew : ((backTo cpos (starEach (e :: []) X.env)).all (fun x => !x.1) && (backToKw cpos (keywordEach [] X.env)).all (fun x => x.1.isSome)
      && decide ((e :: []).length + ([] : List Keyword).length + (if ([] : List Keyword).isEmpty then 0 else 1) < 30)) = true := by rfl)
    (hline : (apos.endLine == cpos.line) = true := by rfl) (hs : starEach (e :: []) X.env = (false, eval e X.env) :: starEach [] X.env := by rfl) (hplain : (backTo cpos (starEach [] X.env)).any (·.1) = false := by rfl) :
    PE X (.Call (.Attribute a "index" apos) [e] [] cpos) (tE C m (q && q') .fz (idxE fa fb)) :=
  PE.imp (pe_bm PySem.F.plainAttrs_list PySem.F.slot_list_index PySem.F.type_list_index (mt_indexD A.hu) ha (pa_cons he pa_nil hs) hbase hfew hline hs hplain) fun σ H Q ⟨ρ, fp, R, p⟩ => by
    refine ⟨ρ, fp, R, p.bnd.imp fun x ρ1 p1 v1 H1 fp1 F1 R1 e1 q1 r1 => ?_⟩
    cases x with
    | list ds =>
      have p1 : Pst C fp H _ (bnd fb (fun y => lft (indexD (.list ds) y)) ρ1) := p1
      have i1 := r1.1
      obtain ⟨l, vs, rfl, h1, h2⟩ := i1.list_of
      refine ⟨.inl ⟨rfl, vs, .inl (Rd.up hide_grow h1)⟩, ρ1, fp1, R1.rep, (p1.later e1).bnd.imp fun y ρ2 p2 v2 H2 fp2 F2 R2 e2 q2 r2 => ?_⟩
      obtain ⟨u, hu, kk⟩ := p2.lft
      simp only [indexD] at hu
      split at hu
      · rename_i c
        rw [Bool.and_eq_true] at c
        obtain ⟨j, hj, rfl⟩ := Option.map_eq_some_iff.mp hu
        obtain ⟨n, z, e3, g1, g2, g3⟩ := indexL_at hj
        have e3 : j = n := by omega
        subst e3
        have i2 := (i1.up (e2.fz R1.rep.ml)).up hide_grow
        have d1 := i2.dp c.1
        have d2 := (r2.1.up hide_grow).dp c.2
        rw [A.K]
        exact ⟨l, v2, y, ds, j, z, rfl, rfl, d1, d2, pl_shaped c.1, pl_shaped c.2, g1, g2, g3, kk _ H2 fp2 (fun _ => False) R2.rep (e1.trans e2) (q1.trans q2) ⟨.int _, fun _ z => z⟩⟩
      · cases hu
    | _ => exact p1.elim
end
end Dn

/-! DnR -/
set_option Elab.async false
set_option linter.all false
set_option maxRecDepth 100000
set_option maxHeartbeats 2000000
/-! Dn, part R: enumerate over a tuple; what is walked told by the data. -/
namespace Dn
open PySem PySem.Spec PyProof PyProof.Rows L2
variable [LamTab]
/-- enumerate(v): its two new cells -/
theorem meets_en1 {v : Value} {o : Obj} {Hh : Heap → Prop} (B : Begins v o Hh) :
    Meets (Builtin.«enumerate.__new__» ⟨[.type "enumerate", v], []⟩) (fun _ R s => Hh s.heap ∧
      R (.ok (.ret (.ref (s.heap.push o).objs.size))) { s with heap := (s.heap.push o).push { cls := .type "enumerate", data := .fields #[.none, .bool false, .ref s.heap.objs.size, rawInt 0, .none, .none] } }) :=
  .of_wp fun prog w A R s h => by
    obtain ⟨hp, gs, dr, tk, os⟩ := s
    obtain ⟨h1, h⟩ := h
    have hsub := sub_enumerate
    have q1 : ∀ {A' : Around} {E : Value → Shared → Prop} {Q : Value → Shared → Prop}, Q (.ref hp.objs.size) ⟨hp.push o, gs, dr, tk, os⟩ → wpAny (model prog w) A' (pyIter v) Q E ⟨hp, gs, dr, tk, os⟩ :=
      fun q => B.iter prog w _ _ ⟨hp, gs, dr, tk, os⟩ _ h1 q
    wp_walk using q1
    refine wpAny_stack_any fun st => wpAny_pure ?_
    split
    · rename_i c _ _ _ _ _
      cases (c == Value.type "enumerate")
      · wp_walk using q1
        exact ⟨_, rfl, h⟩
      · wp_walk using q1
        exact ⟨_, rfl, h⟩
    · wp_walk using q1
      exact ⟨_, rfl, h⟩
theorem call_en1 {prog : Program} {w : World} {A : Around} {E : Value → Shared → Prop} {s : Shared} {v : Value} {o : Obj} {Hh : Heap → Prop} {Q : Value → Shared → Prop} (B : Begins v o Hh) (h1 : Hh s.heap)
    (h : ∀ h', IsEnum h' (s.heap.objs.size + 1) s.heap.objs.size 0 .none → h'.get? s.heap.objs.size = some o → (∀ b o, s.heap.get? b = some o → h'.get? b = some o) → Q (.ref (s.heap.objs.size + 1)) { s with heap := h' }) :
    wpAny (model prog w) A (call (.type "enumerate") [v]) Q E s := by
  refine callType_new F.called_enumerate (by decide) (F.typeCall_enumerate_1 _) (F.newCall_enumerate_1 _) (fun obj => F.args_object_init_2 obj _) F.entry_enumerate_new (meets_en1 B) ⟨h1, ?_⟩
  have hz : (s.heap.push o).objs.size = s.heap.objs.size + 1 := Heap.size_push ..
  show _ ∧ _
  rw [hz]
  have he : IsEnum ((s.heap.push o).push { cls := .type "enumerate", data := .fields #[.none, .bool false, .ref s.heap.objs.size, rawInt 0, .none, .none] }) (s.heap.objs.size + 1) s.heap.objs.size 0 .none := by
    have this := Heap.get?_push_size (s.heap.push o) (o := { cls := .type "enumerate", data := .fields #[.none, .bool false, .ref s.heap.objs.size, rawInt 0, .none, .none] }) rfl
    rw [hz] at this
    exact this
  exact ⟨⟨_, he, rfl⟩, h _ he (Heap.get?_push_of_some _ (Heap.get?_push_size _ B.free)) fun b o x => Heap.get?_push_of_some _ (Heap.get?_push_of_some _ x)⟩
/-- the tuple at a, each item in a new pair -/
def ItU (K : PySem.W.Frag) (a : Addr) : It :=
  ⟨fun i H => ∃ (xs : List V) (x : V), SqT K H a xs ∧ xs[i]? = some x, fun i H v H' => ∃ T x, v = .ref T ∧ H T = none ∧ H' = upd H T (.tup [.int (i : Nat), x]) ∧ ∀ xs, SqT K H a xs → xs[i]? = some x, fun i H => ∃ xs : List V, SqT K H a xs ∧ xs.length = i⟩
theorem turn_enT {P : Program} {w : World} {K : PySem.W.Frag} {elts : List Expr} {kk : Nat} {tpos : Pos} (a e it : Addr) (ne : e ≠ it) :
    Turn P w K (.Tuple elts kk tpos) (ItU K a) [e, it] e (fun i h => (∃ old, IsEnum h e it ((i : Nat) : Int) old) ∧ h.IsTupleIter it a i) where
  mem := by simp
  obj := by
    rintro i h ⟨⟨old, he⟩, o, ho, hc, hd⟩ b hb
    rcases (show b = e ∨ b = it by simpa using hb) with rfl | rfl
    · exact ⟨_, he, fun v q => nomatch q⟩
    · exact ⟨o, ho, fun v q => by rw [hd] at q; cases q⟩
  keep := by
    rintro i h h' ⟨⟨old, he⟩, hi⟩ k
    exact ⟨⟨old, k e (by simp) _ he⟩, hi.at fun o q => k it (by simp) o q⟩
  item := by
    intro X hP hw hK hc i pins s σ H E I hf st hg
    subst hP hw hK
    obtain ⟨⟨old, he⟩, hit⟩ := st
    obtain ⟨xs, x, hq, hx⟩ := hg
    obtain ⟨its, rv, p, hz⟩ := I.tuple hq
    obtain ⟨u, hu, ru⟩ := rv.get hx
    have p : s.heap.IsTuple a its.toArray := p
    have hel : e < s.heap.objs.size := Heap.lt_size he
    have hil : it < s.heap.objs.size := by obtain ⟨_, q, _⟩ := hit; exact Heap.lt_size q
    have lo : ∀ b ∈ [e, it], b < s.heap.objs.size := fun b hb => by
      rcases (show b = e ∨ b = it by simpa using hb) with z | z
      · rw [z]; exact hel
      · rw [z]; exact hil
    have ta : a ≠ e ∧ a ≠ it := by
      obtain ⟨o1, q1, q2, _⟩ := id p
      constructor
      · rintro rfl
        rw [he] at q1
        cases q1
        exact absurd (Value.type.inj q2) (by decide)
      · rintro rfl
        obtain ⟨o2, q3, q4, _⟩ := id hit
        rw [q3] at q1
        cases q1
        rw [q4] at q2
        exact absurd (Value.type.inj q2) (by decide)
    have hlt : i < its.toArray.size := by
      have := (List.getElem?_eq_some_iff.mp hu).1
      simpa using this
    refine wpAny_pyNext_enum_itemD (Draws.tuple (A := X.A.in1) (I.ok.hd hc) it a ta.2 its.toArray) he ⟨hit, p⟩ hlt ne (by simp [ne, Ne.symm ta.1]) fun x' h' tk hx' ho hst hT hsz hk => ?_
    have ex : x' = u := by
      rw [List.getElem?_toArray, hu] at hx'
      exact (Option.some.inj hx').symm
    subst ex
    refine ⟨_, rfl, wpAny_letOwnedTupleGo_enum (s := { s with heap := h', toks := tk + 1 }) ho fun h'' he' sb => ?_⟩
    have hT2 : h''.get? s.heap.objs.size = some { cls := .type "tuple", data := .seq #[.int i tk, x'] } := (sb.2 _ (Nat.ne_of_gt hel)).trans hT
    have new : ObjOk X.prog X.w (upd H s.heap.objs.size (.tup [.int (i : Nat), x])) h'' s.heap.objs.size (.tup [.int (i : Nat), x]) :=
      ⟨by show 2 ≤ sizeLine; decide, [.int i tk, x'], .cons ⟨_, rfl⟩ (.cons ru .nil), ⟨_, hT2, rfl, _, rfl⟩⟩
    have I1 : Inv X pins σ (upd H s.heap.objs.size (.tup [.int (i : Nat), x])) { s with heap := h'', toks := tk + 1 } :=
      I.turnedNew (ch := [e, it]) (fun b ob hb q => (sb.2 b (fun z => hb (by simp [z]))).trans (hk b ob (fun z => hb (by simp [z])) (fun z => hb (by simp [z])) q)) hf (Nat.le_refl _) new
    refine ⟨.ref s.heap.objs.size, _, I1, rfl, ⟨_, x, rfl, I.hok.fresh (Nat.le_refl _), rfl, fun ys hy => by rw [I.tuple_inj hy hq]; exact hx⟩, ⟨⟨x', ?_⟩, hst.1.at fun o q => (sb.2 it (Ne.symm ne)).trans q⟩, fun b hb => ?_⟩
    · have e1 : ((i + 1 : Nat) : Int) = (i : Int) + 1 := by omega
      rw [e1]
      exact he'
    · rw [upd_ne (Nat.ne_of_lt (lo b hb))]
      exact (hf b hb).1
  done := by
    intro X hP hw hK hc i pins s σ H E I hf st hg
    subst hP hw hK
    obtain ⟨⟨old, he⟩, hit⟩ := st
    obtain ⟨xs, hq, hx⟩ := hg
    obtain ⟨its, rv, p, hz⟩ := I.tuple hq
    have p : s.heap.IsTuple a its.toArray := p
    obtain ⟨f0, f1, f2, f3, f4, f5⟩ := hf it (by simp)
    have hl := rv.length
    have ta : a ≠ it := by
      rintro rfl
      obtain ⟨o1, q1, q2, _⟩ := id p
      obtain ⟨o2, q3, q4, _⟩ := id hit
      rw [q3] at q1
      cases q1
      rw [q4] at q2
      exact absurd (Value.type.inj q2) (by decide)
    have en : its.toArray.size = i := by rw [List.size_toArray, ← hl]; exact hx
    subst en
    exact wpAny_pyNext_enum_endD (Draws.tuple (A := X.A.in1) (I.ok.hd hc) it a ta its.toArray) he ⟨hit, p⟩ fun h' eb => ⟨rfl, I.turned (t' := s.toks) (fun b o hb q => eb b o hb q) f0 f1 f3 f4 f5⟩
  self := fun A i s Q E st h => let ⟨⟨_, he⟩, _⟩ := st; wpAny_pyIter_enum he h
theorem walk_enT {K : PySem.W.Frag} {a : Addr} {xs : List V} : Walk (ItU K a) xs.length (fun H => SqT K H a xs) (YPair (fun i => some (.int (i : Nat))) (fun i => xs[i]?)) :=
  ⟨fun i H hi q => ⟨xs, xs[i], q, by simp [hi]⟩, fun H q => ⟨xs, q, rfl⟩, fun i H v H' hi q ⟨T, x, e1, e2, e3, e4⟩ => ⟨T, _, x, e1, e2, e3, rfl, e4 xs q⟩⟩
theorem pi_enT {X : Cx} {e : Expr} {ta : TA} {p pos tpos : Pos} {elts : List Expr} {kk : Nat} (hg : Gl X "enumerate") (hm : X.mg "enumerate" = none) (ha : PA X [e] ta) (hs : starEach [e] X.env = [(false, eval e X.env)] := by rfl) :
    PI X (.Tuple elts kk tpos) (.Call (.Name "enumerate" p) [e] [] pos) (fun σ H R => ta σ H fun vs H1 => ∃ a xs, vs = [.ref a] ∧ SqT X.K H1 a xs ∧ R (ItU X.K a) H1) := by
  constructor
  intro pins s σ H R I h
  refine Call_ (ld_blt I hg hm boot_enumerate (PyProof.Rows.callWith_type1 (thn (ha.run pos pins s σ H _ I h) ?_) hs rfl))
  rintro us s1 ⟨vs, H1, I1, r1, a, xs, rfl, hq, q⟩
  obtain rfl := Vals.ref1 r1
  obtain ⟨its, rv, p', hz⟩ := I1.tuple hq
  refine call_en1 (begins_tuple a its.toArray) p' fun h' he hit hk => wpAny_pyIter_enum he ?_
  have I2 : Inv X pins σ H1 { s1 with heap := h' } := I1.kept (t' := s1.toks) hk
  refine ⟨s1.heap.objs.size + 1, [s1.heap.objs.size + 1, s1.heap.objs.size], _, _, H1, rfl, I2, turn_enT a (s1.heap.objs.size + 1) s1.heap.objs.size (Nat.succ_ne_self _), ⟨⟨.none, he⟩, _, hit, rfl, rfl⟩, ?_, q⟩
  intro b hb
  have hle : s1.heap.objs.size ≤ b := by
    rcases (show b = s1.heap.objs.size + 1 ∨ b = s1.heap.objs.size by simpa using hb) with z | z
    · rw [z]; exact Nat.le_add_right _ _
    · rw [z]; exact Nat.le_refl _
  exact I1.fpOk hle (I1.hok.fresh hle)
/-! ### by the data -/
theorem PE.or {X : Cx} {e : Expr} {t t' : TE} (h : PE X e t) (h' : PE X e t') : PE X e (fun σ H Q => t σ H Q ∨ t' σ H Q) := ⟨fun pins s σ H Q I q => q.elim (h.run pins s σ H Q I) (h'.run pins s σ H Q I)⟩
theorem PI.or {X : Cx} {tg e : Expr} {t t' : TI} (h : PI X tg e t) (h' : PI X tg e t') : PI X tg e (fun σ H Q => t σ H Q ∨ t' σ H Q) := ⟨fun pins s σ H Q I q => q.elim (h.run pins s σ H Q I) (h'.run pins s σ H Q I)⟩
section
variable {X : Cx} {C : Cd} {m : List Mode} {q q' : Bool} {tg a b : Expr} {fa fb : M D} {g : M (List D)} {p pos : Pos}
theorem pi_seqD (A : Agr X C) (ha : PE X a (tE C m q .fz fa)) : PI X tg a (tI C m (itV fa)) := PI.imp (PI.or (pi_lstD A ha) (pi_tupD A ha)) fun σ H R ⟨ρ, fp, Rp, p⟩ => by
  unfold itV bnd at p
  cases e : fa ρ with
  | ok d ρ' =>
    rw [e] at p
    cases d with
    | list xs => exact .inl ⟨ρ, fp, Rp, by unfold itL bnd; rw [e]; exact p⟩
    | tuple xs => exact .inr ⟨ρ, fp, Rp, by unfold itT bnd; rw [e]; exact p⟩
    | _ => exact p.elim
  | err c d ρ' => exact .inl ⟨ρ, fp, Rp, by unfold itL bnd; rw [e]; rw [e] at p; exact p⟩
  | stuck => rw [e] at p; exact p.elim
def enumTD : List D → Option (List D)
  | [.tuple xs] => some (numL 0 xs)
  | _ => none
theorem pi_enumT {e : Expr} {tpos : Pos} {elts : List Expr} {kk : Nat} (A : Agr X C) (ha : PA X [e] (tA C m q g)) (hm : X.mg "enumerate" = none) (hg : Gl X "enumerate" := by rfl) (hs : starEach [e] X.env = [(false, eval e X.env)] := by rfl) : PI X (.Tuple elts kk tpos) (.Call (.Name "enumerate" p) [e] [] pos) (tI C m (itA enumTD g)) :=
  PI.imp (pi_enT hg hm ha hs) fun σ H R ⟨ρ, fp, Rp, p⟩ => by
    refine ⟨ρ, fp, Rp, p.bnd.imp fun xs ρ1 p1 vs H1 fp1 R1 e1 q1 r1 => ?_⟩
    obtain ⟨ds, hd, k⟩ := p1.lft
    match xs, hd, r1 with
    | [.tuple xs], hd, .cons v .nil =>
      cases hd
      obtain ⟨b, ws, rfl, h1, h2⟩ := v.tuple_of
      rw [A.K]
      refine ⟨b, ws, rfl, SqT.up hide_grow h1, k _ H1 fp1 R1 e1 ⟨fun H => SqT C.K H b ws, YPair (fun i => some (.int (i : Nat))) (fun i => ws[i]?), by rw [numL_len, ← h2.length]; exact walk_enT, fun H2 e => SqT.up e h1, fun i O H2 x H3 e lv ⟨T, v, w, y1, y2, y3, y4, y5⟩ => ?_⟩⟩
      subst y1 y3
      cases y4
      obtain ⟨d, hd, is⟩ := h2.get y5
      exact ⟨Gr.upd y2, _, numL_at xs 0 i d hd, by rw [Nat.zero_add]; exact pair_is y2 lv (.int _) (is.up e)⟩
def enumUD : List D → Option (List D)
  | [.tuple xs] => some (numL 0 xs)
  | [.list xs] => some (numL 0 xs)
  | _ => none
theorem pi_enumU {e : Expr} {tpos : Pos} {elts : List Expr} {kk : Nat} (A : Agr X C) (ha : PA X [e] (tA C m q g)) (hm : X.mg "enumerate" = none) (hg : Gl X "enumerate" := by rfl) (hs : starEach [e] X.env = [(false, eval e X.env)] := by rfl) : PI X (.Tuple elts kk tpos) (.Call (.Name "enumerate" p) [e] [] pos) (tI C m (itA enumUD g)) :=
  PI.imp (PI.or (pi_enumL A ha hm hg hs) (pi_enumT A ha hm hg hs)) fun σ H R ⟨ρ, fp, Rp, p⟩ => by
    unfold itA bnd at p
    cases e : g ρ with
    | ok ds ρ' =>
      rw [e] at p
      match ds, e, p with
      | [.tuple xs], e, p => exact .inr ⟨ρ, fp, Rp, by unfold itA bnd; rw [e]; exact p⟩
      | [.list xs], e, p => exact .inl ⟨ρ, fp, Rp, by unfold itA bnd; rw [e]; exact p⟩
      | [], e, p => exact p.elim
      | [.none], e, p => exact p.elim
      | [.bool _], e, p => exact p.elim
      | [.int _], e, p => exact p.elim
      | [.str _], e, p => exact p.elim
      | [.dict _], e, p => exact p.elim
      | _ :: _ :: _, e, p => exact absurd p (by simp [enumUD, lft, Pst])
    | err c d ρ' => exact .inl ⟨ρ, fp, Rp, by unfold itA bnd; rw [e]; rw [e] at p; exact p⟩
    | stuck => rw [e] at p; exact p.elim
/-- x[k] of a list, a tuple, a text or a dict -/
def itemU : Op2 := fun x k => match x with
  | .dict kvs => dgetD (.dict kvs) k
  | x => itemD x k
theorem pd_itemU (A : Agr X C) (ha : PE X a (tE C m q .fz fa)) (hb : PE X b (tE C m true .fz fb)) (hs : PlainIx b := by intro _ _; rfl) (hs2 : NoSl b := by intro _ _; rfl) : PE X (.Subscript a b pos) (tE C m (q && true) .fz (bin itemU fa fb)) :=
  PE.imp (PE.or (pd_item A ha hb hs) (show PE X (.Subscript a b pos) (tE C m (q && true) .fz (bin dgetD fa fb)) from by rw [Bool.and_true]; exact pd_getD A ha hb rfl hs2)) fun σ H Q ⟨ρ, fp, R, p⟩ => by
    unfold bin bnd at p
    cases e : fa ρ with
    | ok d ρ' =>
      rw [e] at p
      cases d with
      | dict kvs => exact .inr ⟨ρ, fp, R, by unfold bin bnd; rw [e]; exact p⟩
      | _ => exact .inl ⟨ρ, fp, R, by unfold bin bnd; rw [e]; exact p⟩
    | err c d ρ' => exact .inl ⟨ρ, fp, R, by unfold bin bnd; rw [e]; rw [e] at p; exact p⟩
    | stuck => rw [e] at p; exact p.elim
/-- int * int, tuple * int -/
def mulU : Op2 := fun d e => match d with
  | .tuple xs => repTD (.tuple xs) e
  | d => onI mulD d e
theorem o_mulU {K : PySem.W.Frag} {mg : Str → Option Value} : OpD K mg (fun x y H Q => rMulA x y H Q ∨ rRepT K x y H Q) mulU := fun O H x y d e u Q lv hx hy hf k => by
  cases d with
  | tuple xs => exact .inr (o_repT O H x y _ e u Q lv hx hy hf k)
  | _ => exact .inl (o_mulI.d O H x y _ e u Q lv hx hy hf k)
theorem pd_mul (A : Agr X C) (ha : PE X a (tE C m q .fz fa)) (hb : PE X b (tE C m q' .fz fb)) : PE X (.BinOp a .Mult b pos) (tE C m (q && q') .fz (bin mulU fa fb)) := pd_bin o_mulU (by rw [← A.K]; exact OpR.or op_mulA op_repT) ha hb
end
end Dn

/-! DnS -/
set_option Elab.async false
set_option linter.all false
set_option maxRecDepth 100000
/-! Dn, part S: bundles for defs and exceptions; more expressions. -/
namespace Dn
open PySem PySem.Spec PyProof PyProof.Rows L2
variable [LamTab]
/-! ### - x -/
theorem pd_neg {X : Cx} {C : Cd} {m : List Mode} {q : Bool} {a : Expr} {fa : M D} {pos : Pos} (ha : PE X a (tE C m q .fz fa)) : PE X (.UnaryOp .USub a pos) (tE C m q .fz (un negD fa)) := PE.imp (pe_un un_neg ha) fun σ H Q ⟨ρ, fp, R, p⟩ => by
  refine ⟨ρ, fp, R, p.bnd.imp fun x ρ1 p1 v1 H1 fp1 F1 R1 e1 q1 r1 => ?_⟩
  obtain ⟨u, hu, kk⟩ := p1.lft
  cases x with
  | int i =>
    cases hu
    exact ⟨i, r1.1.int_of, kk _ H1 fp1 (fun _ => False) R1 e1 q1 ⟨.int _, fun _ z => z⟩⟩
  | _ => cases hu
/-! ### exceptions' classes -/
/-- the classes of exceptions that are told, by name and field -/
def exT (K : PySem.W.Frag) (fs : List (Str × Str)) : ExT := fun c C f => C = He.ga K c ∧ fs.lookup c = some f
/-- what is known of an own exception's class -/
structure ExF (P : Program) (w : World) (K : PySem.W.Frag) (mg : Str → Option Value) (base : Heap) (k : Nat) (c fl : Str) (ps : List Str) : Prop where
  at_ : mg c = some (.ref (He.ga K c))
  ex : ∃ fI fd, OexC K (He.ga K c) ∧ PySem.W.findIn K (.ref (He.ga K c)) "__init__" = some (some (.ref fI)) ∧ PySem.W.typeIn K (.ref fI) = some (.type "function") ∧ FnOk P w K mg base (L2.CX P w) k fI fd ps (spE K (He.ga K c) fl) ∧ Binds K fd ps []
  no : PySem.W.findIn K (.ref (He.ga K c)) fl = some none
  rd : XfC K (He.ga K c)
  same : PySem.W.exmOne K (.ref (He.ga K c)) (.ref (He.ga K c)) = some true
section
variable {X : Cx} {C : Cd} {m mh mn mb mc : List Mode} {q : Bool} {e : Expr} {g : M D} {x c fl n : Str} {k i : Nat} {ps : List Str} {p pos pos2 np : Pos} {fs : List (Str × Str)} {s : S} {h : D → S} {is : List Nat} {body suite : List Stmt} {b₀ : Stmt}
theorem sd_rai (A : Agr X C) (F : ExF X.prog X.w X.K X.mg X.base k c fl ps) (hx : C.ex = exT C.K fs) (hf : fs.lookup c = some fl) (hr : Room (k + 1) X.A) (he : PE X e (tE C m q .fz g)) (hem : C.em m := by first | exact True.intro | rfl) (hc : X.calm = true := by rfl) (hg : Gl X c := by rfl) (hdb : (c == ("__debug__" : Str)) = false := by decide)
    (hs : starEach (e :: []) X.env = (false, eval e X.env) :: starEach [] X.env := by rfl) (hpl : (backTo pos (starEach [] X.env)).any (·.1) = false := by rfl) : PS X (.Raise (some (.Call (.Name c p) [e] [] pos)) none pos2) (tS C m mn mb mc (rai c g)) := by
  obtain ⟨fI, fd, T, iC, tI, F1, hb⟩ := F.ex
  exact sd_raise A T iC tI F1 F.no hr hb F.at_ (by rw [hx]; exact ⟨by rw [A.K], hf⟩) he hem hc hg hdb hs hpl
/-- try: .. except c as n: .. -/
theorem sd_tryX (A : AgS X C) (F : ExF X.prog X.w X.K X.mg X.base k c fl ps) (hx : C.ex = exT C.K fs) (hf : fs.lookup c = some fl) (hN : X.N[i]? = some n) (hi : fzSl C.io mh [i] = true)
    (hb : ∀ (W : WX) (pn : List (Addr × Obj)) (xe : Value → Shared → Prop), AgS (X.tr pn xe) (C.tr W is mh) → PSs (X.tr pn xe) body (tS (C.tr W is mh) m mn mb mc s))
    (hsu : ∀ (a dd : Addr) (d : D) (oe : Obj) (pn : List (Addr × Obj)), Agr (X.suite a ((a, oe) :: pn)) (C.su i a dd fl d) → Zc (.ref (He.ga X.K c)) (some dd) oe → (∃ vs, oe.data = .fields vs) → PSs (X.suite a ((a, oe) :: pn)) (b₀ :: suite) (tS (C.su i a dd fl d) mh mn mb mc (h d)))
    (px : C.px = none := by rfl) (hu : (X.A.mark (some (.ref 0))).units = X.A.units := by rfl) (hst : X.stack = X.env :: X.outer := by rfl) (hfr : X.env.frame = some X.env.locals := by rfl) (hln : X.env.kindOf n = some .local := by rfl) (hg : Gl X c := by rfl) (hdb : (c == ("__debug__" : Str)) = false := by decide) :
    PS X (.Try body [.ExceptHandler (some (.Name c np)) (some n) (b₀ :: suite) pos2] [] [] pos) (tS C m mn mb mc (tryS s c is i h)) :=
  sd_try A px hN hi F.at_ (by
    rw [hx]
    rintro C' f' ⟨h1, h2⟩
    rw [hf] at h2
    cases h2
    exact ⟨by rw [h1, A.K], rfl⟩) F.same hb hsu hu hst hfr hln hg hdb
end
/-! ### list(range(..)) -/
def rg1D : D → Option D
  | .int j => if decide (0 ≤ j) && decide (j ≤ 16777216) then some (.list (rngL 0 j.toNat)) else none
  | _ => none
def lrgE (a : M D) : M D := bnd a fun x => lft (rg1D x)
theorem pd_listRg {X : Cx} {C : Cd} {m : List Mode} {q : Bool} {a : Expr} {fa : M D} {p p2 pos pos2 : Pos} (ha : PE X a (tE C m q .fz fa)) (hl : X.mg "list" = none) (hm : X.mg "range" = none) (hc : X.calm = true := by rfl) (hg : Gl X "list" := by rfl) (hg2 : Gl X "range" := by rfl)
    (na : starEach [a] X.env = (false, eval a X.env) :: starEach [] X.env := by rfl) (na2 : starEach [.Call (.Name "range" p2) [a] [] pos2] X.env = (false, eval (.Call (.Name "range" p2) [a] [] pos2) X.env) :: starEach [] X.env := by rfl) :
    PE X (.Call (.Name "list" p) [.Call (.Name "range" p2) [a] [] pos2] [] pos) (tE C m q (.new 1) (lrgE fa)) := PE.imp (pe_listRg hc hg hl (prg_1 hg2 hm ha na) na2) fun σ H Q ⟨ρ, fp, R, p⟩ => by
  refine ⟨ρ, fp, R, p.bnd.imp fun x ρ1 p1 v1 H1 fp1 F1 R1 e1 q1 r1 => ?_⟩
  obtain ⟨u, hu, kk⟩ := p1.lft
  cases x with
  | int j =>
    simp only [rg1D] at hu
    split at hu
    · rename_i c
      simp only [Bool.and_eq_true, decide_eq_true_eq] at c
      cases hu
      have il : IsL C.K C.mg (hide (own C.M fp1) H1) (rgV 0 j) (rngL 0 j.toNat) := by
        unfold rgV rngL
        rw [show (j - 0).toNat = j.toNat by omega]
        generalize List.range j.toNat = l
        induction l with
        | nil => exact .nil
        | cons x xs ih => exact .cons (.int _) ih
      refine ⟨j, r1.1.int_of, RgOk.of_le (by omega) c.2 (by omega) c.1, fun p hp => ?_⟩
      obtain ⟨F, Rk, rs⟩ := (nw_lst R1.rep.live hp il).res R1.rep e1 (Gr.upd hp)
      exact kk _ _ fp1 F Rk (e1.mono (Gr.upd hp)) (q1.grw (Gr.upd hp)) rs
    · cases hu
  | _ => cases hu
/-! ### x[::-1] of a tuple -/
def revU : Op1
  | .tuple xs => some (.tuple xs.reverse)
  | _ => none
section
variable {prog : Program} {w : World} {A : Around} {E : Value → Shared → Prop} {s : Shared}
theorem adjust_rev (n : Nat) : Builtin.Slice.sliceAdjust none none (-1) (n : Int) = ((n : Int) - 1, -1) := rfl
theorem places_rev (n : Nat) : Builtin.Slice.slicePlaces ((n : Int) - 1) (-1) (-1) = n := by
  unfold Builtin.Slice.slicePlaces
  have h1 : ¬ ((-1 : Int) > 0) := by omega
  have h2 : -(-1 : Int) = 1 := by omega
  simp only [h1, if_false, h2, Int.ediv_one]
  split <;> omega
theorem fm_congr {α β : Type} {f g : α → Option β} : ∀ {l : List α}, (∀ x ∈ l, f x = g x) → l.filterMap f = l.filterMap g
  | [], _ => rfl
  | x :: l, h => by
    rw [List.filterMap_cons, List.filterMap_cons, h x (List.mem_cons_self ..), fm_congr fun y hy => h y (List.mem_cons_of_mem _ hy)]
theorem pick_rev (xs : Array Value) : ((List.range xs.size).filterMap fun (m : Nat) => xs[(((xs.size : Int) - 1) + (m : Int) * (-1)).toNat]?).toArray = xs.toList.reverse.toArray := by
  congr 1
  have e : ∀ l : List Value, ((List.range l.length).filterMap fun (m : Nat) => l[(((l.length : Int) - 1) + (m : Int) * (-1)).toNat]?) = l.reverse := by
    intro l
    refine List.ext_getElem? fun i => ?_
    have q : ((List.range l.length).filterMap fun (m : Nat) => l[(((l.length : Int) - 1) + (m : Int) * (-1)).toNat]?) = (List.range l.length).map fun m => l.reverse.getD m .none := by
      rw [← List.filterMap_eq_map]
      refine fm_congr fun m hm => ?_
      have hm := List.mem_range.mp hm
      have e1 : (((l.length : Int) - 1) + (m : Int) * (-1)).toNat = l.length - 1 - m := by omega
      rw [e1]
      simp only [Function.comp, List.getD_eq_getElem?_getD]
      rw [List.getElem?_reverse hm, List.getElem?_eq_getElem (by omega)]
      rfl
    rw [q, List.getElem?_map]
    by_cases hi : i < l.length
    · rw [List.getElem?_range hi, List.getElem?_eq_getElem (by rw [List.length_reverse]; exact hi)]
      simp [List.getD_eq_getElem?_getD, List.getElem?_eq_getElem, hi]
    · rw [List.getElem?_eq_none (by rw [List.length_range]; omega), List.getElem?_eq_none (by rw [List.length_reverse]; omega)]
      rfl
  have := e xs.toList
  rw [Array.length_toList] at this
  rw [← this]
  refine fm_congr fun m _ => ?_
  rw [Array.getElem?_toList]
theorem sliceApplied_rev {sl : Addr} {vs : Value} {n : Nat} {Q : Int × Int × Nat → Shared → Prop} (hs : s.heap.IsSliceOf sl .none .none vs) (ps : IsPart vs (some (-1)))
    (h : Q ((n : Int) - 1, -1, n) s) : wpAny (model prog w) A (Builtin.Slice.sliceApplied (.ref sl) (pure (n : Int))) Q E s := by
  obtain ⟨os, hos, hcs, hds⟩ := id hs
  unfold Builtin.Slice.sliceApplied Builtin.Slice.sliceFields
  refine wpAny_bind (wpAny_bind (wpAny_field hos hds (x := .none) rfl (wpAny_bind (wpAny_field hos hds (x := .none) rfl (wpAny_bind (wpAny_field hos hds (x := vs) rfl (wpAny_pure ?_)))))))
  refine wpAny_bind (HT.slicePart_ ps ?_)
  show wpAny _ _ (if ((-1 : Int) == 0) = true then _ else _) _ _ s
  rw [if_neg (by decide)]
  refine wpAny_bind (HT.slicePart_ .none (wpAny_bind (HT.slicePart_ .none (wpAny_bind (wpAny_pure ?_)))))
  show wpAny _ _ (match Builtin.Slice.sliceAdjust none none (-1) (n : Int) with | (lo, hi) => pure (lo, (-1 : Int), Builtin.Slice.slicePlaces lo hi (-1))) _ _ s
  rw [adjust_rev n]
  show wpAny _ _ (pure ((n : Int) - 1, (-1 : Int), Builtin.Slice.slicePlaces ((n : Int) - 1) (-1) (-1))) _ _ s
  rw [places_rev]
  exact wpAny_pure h
theorem getItem_tuple_rev {t sl : Addr} {items : Array Value} {vs : Value} {Q : Value → Shared → Prop} (ht : IsTup s.heap t items) (hs : s.heap.IsSliceOf sl .none .none vs) (ps : IsPart vs (some (-1)))
    (h : Q (.ref s.heap.objs.size) { s with heap := s.heap.push { cls := .type "tuple", data := .seq items.toList.reverse.toArray } })
    (hsz : items.size ≤ sizeLine) : wpAny (model prog w) A (getItem (.ref t) (.ref sl)) Q E s := by
  have htake : sizeOk (.seq items.toList.reverse.toArray) := by
    show items.toList.reverse.toArray.size ≤ sizeLine
    rw [List.size_toArray, List.length_reverse, Array.length_toList]
    exact hsz
  obtain ⟨os, hos, hcs, hds⟩ := id hs
  have hTs : s.TypeIs (.ref sl) "slice" := ⟨os, hos, hcs⟩
  unfold getItem
  try with_reducible refine wpAny_holding ?_
  first | refine wpAny_bind (wpAny_pure ?_) | skip
  refine wpAny_bind (wpAny_sequenceKey ht.typeIs (by decide) ?_)
  refine wpAny_bind (wpAny_callSpecial?_slot (name := Str.ofString "__getitem__") ht.typeIs PyProof.Rows.slot_tuple_getitem
    (wpAny_call_entry PyProof.Rows.slot_tuple_getitem ht.typeIs entry_tuple_getitem ?_ (args_tuple_getitem _ _)))
  show wpAny _ _ (Builtin.Tuple.tupleItemsOf (.ref t) >>= _) _ _ s
  refine wpAny_bind (tupleItemsOf_ ht ?_)
  refine wpAny_bind (wpAny_typeOf hTs ?_)
  rw [if_pos (by decide)]
  refine wpAny_bind (sliceApplied_rev hs ps ?_)
  have hno : ¬ ((((items.size : Int) - 1) == 0 && (-1 : Int) == 1 && items.size == items.size) = true) := by
    intro q
    rw [Bool.and_eq_true, Bool.and_eq_true] at q
    exact absurd (eq_of_beq q.1.2) (by decide)
  show wpAny _ _ (if ((((items.size : Int) - 1) == 0 && (-1 : Int) == 1 && items.size == items.size) = true) then _ else _) _ _ s
  rw [if_neg hno, pick_rev]
  first
    | exact wpAny_bind (m := Builtin.Tuple.tupleExact _) (wpAny_newObj_type (wpAny_pure ⟨_, rfl, wpAny_pure h⟩) htake)
    | exact wpAny_bind (m := Builtin.Tuple.tupleExact _) (wpAny_newObj_type (wpAny_bind (wpAny_pure (wpAny_pure ⟨_, rfl, wpAny_pure h⟩))) htake)
    | exact wpAny_bind (wpAny_bind (m := Builtin.Tuple.tupleExact _) (wpAny_newObj_type (wpAny_pure (wpAny_pure ⟨_, rfl, wpAny_pure h⟩)) htake))
    | exact wpAny_bind (wpAny_bind (m := Builtin.Tuple.tupleExact _) (wpAny_newObj_type (wpAny_pure ⟨_, rfl, wpAny_pure h⟩) htake))
end
section
variable {X : Cx}
def tRevT (K : PySem.W.Frag) (te : TE) : TE := fun σ H Q => te σ H fun x H1 => ∃ a xs, x = .ref a ∧ SqT K H1 a xs ∧ ∀ p, H1 p = none → Q (.ref p) (upd H1 p (.tup xs.reverse))
theorem pe_revT {e : Expr} {te : TE} {k : Nat} {p1 p2 p3 pos : Pos} (he : PE X e te) : PE X (.Subscript e (.Slice none none (some (.UnaryOp .USub (.Constant (.int 1) k p1) p2)) p3) pos) (tRevT X.K te) := by
  refine ⟨fun pins s σ H Q I h => ?_⟩
  refine Subscript_ (thn (he.run pins s σ H _ I h) fun v s1 ⟨x, H1, I1, r1, q1⟩ => ?_)
  obtain ⟨a, xs, ex, hx, q⟩ := q1
  subst ex
  cases r1
  have hst : PO X (some (.UnaryOp .USub (.Constant (.int 1) k p1) p2)) (tPart (tUn (rU fun i => .int (-i)) (tC (.int 1)))) := po_some (pe_un un_neg pe_int)
  refine wpAny_Slice (thn (po_none.run pins s1 σ H1 (fun o H2 => o = none ∧ H2 = H1) I1 ⟨rfl, rfl⟩) fun vl s2 ⟨l, H2, I2, pl, el, e2⟩ => ?_)
  subst el e2
  refine thn (po_none.run pins s2 σ H2 (fun o H3 => o = none ∧ H3 = H2) I2 ⟨rfl, rfl⟩) fun vu s3 ⟨u, H3, I3, pu, eu, e3⟩ => ?_
  subst eu e3
  refine thn (hst.run pins s3 σ H3 (fun o H4 => o = some (-1) ∧ H4 = H3) I3 ⟨1, rfl, -1, rfl, rfl, rfl⟩) fun vs s4 ⟨o, H4, I4, ps, eo, e4⟩ => ?_
  subst eo e4
  cases pl
  cases pu
  have I5 : Inv X pins σ H4 { s4 with heap := s4.heap.push { cls := .type "slice", data := .fields #[.none, .none, vs] } } := I4.kept (t' := s4.toks) fun b ob q => Heap.get?_push_of_some _ q
  obtain ⟨its, r, ht, hz⟩ := I5.tuple hx
  have hlen := r.length
  show wpAny (model X.prog X.w) X.A (subscriptTail e (.Slice none none (some (.UnaryOp .USub (.Constant (.int 1) k p1) p2)) p3) (.ref a) (.ref s4.heap.objs.size)) (EP X pins σ Q) X.xe { s4 with heap := s4.heap.push { cls := .type "slice", data := .fields #[.none, .none, vs] } }
  refine tail_any (ops := [.ref a, .ref s4.heap.objs.size]) ht.typeIs PyProof.Rows.slot_tuple_getitem.lookup ?_ (by with_unfolding_all rfl)
  refine getItem_tuple_rev ht (Heap.IsSliceOf.new _ .none .none vs) ps ?_ (by rw [List.size_toArray]; omega)
  refine ⟨.ref _, _, I5.laid (t' := s4.toks) (o := .tup xs.reverse) (fun b ob q => Heap.get?_push_of_some _ q) (Nat.le_refl _) ?_, rfl, q _ (I5.hok.fresh (Nat.le_refl _))⟩
  exact ⟨by rw [List.length_reverse]; exact hz, _, r.reverse, IsTup.new _ _⟩
theorem pd_rev {C : Cd} {m : List Mode} {q : Bool} {a : Expr} {fa : M D} {k : Nat} {p1 p2 p3 pos : Pos} (A : Agr X C) (ha : PE X a (tE C m q .fz fa)) :
    PE X (.Subscript a (.Slice none none (some (.UnaryOp .USub (.Constant (.int 1) k p1) p2)) p3) pos) (tE C m q .fz (un revU fa)) := PE.imp (pe_revT ha) fun σ H Q ⟨ρ, fp, R, p⟩ => by
  refine ⟨ρ, fp, R, p.bnd.imp fun x ρ1 p1 v1 H1 fp1 F1 R1 e1 q1 r1 => ?_⟩
  obtain ⟨u, hu, kk⟩ := p1.lft
  cases x with
  | tuple ds =>
    cases hu
    obtain ⟨b, xs, rfl, h1, h2⟩ := r1.1.tuple_of
    refine ⟨b, xs, rfl, by rw [A.K]; exact SqT.up hide_grow h1, fun p hp => ?_⟩
    exact kk _ _ fp1 (fun _ => False) (R1.rep.stay (Gr.upd hp)) (e1.mono (Gr.upd hp)) (q1.grw (Gr.upd hp)) ⟨nw_tup R1.rep.live hp h2.reverse, fun _ z => z⟩
  | _ => cases hu
end
end Dn

/-! DnT -/
set_option Elab.async false
set_option linter.all false
set_option maxRecDepth 100000
/-! Dn, part T: functions as values: closed lambdas, calls of what a slot holds. -/
namespace Dn
open PySem PySem.Spec PyProof PyProof.Rows L2
variable [LamTab]
section
variable {X : Cx} {pins : List (Addr × Obj)} {σ : L2.St} {H : Hp} {s : Shared}
/-- a lambda's object just made is known from now on -/
theorem inv_lam {l : LamSyn} {o : Obj} {t' : Nat} {c : Addr} {pm ctv : Value} (I : Inv X pins σ H s) (ho : o = PySem.W.kla_obj "<lambda>" l.q l.params l.body l.scope [] pm c ctv) :
    Inv X pins σ (upd H s.heap.objs.size (LamO s.heap.objs.size c l)) { s with heap := s.heap.push o, toks := t' } := by
  subst ho
  refine I.laid (a := s.heap.objs.size) (fun b u e => Heap.get?_push_of_some _ e) (Nat.le_refl _) ?_
  have e : (s.heap.push (PySem.W.kla_obj "<lambda>" l.q l.params l.body l.scope [] pm c ctv)).get? s.heap.objs.size = some (PySem.W.kla_obj "<lambda>" l.q l.params l.body l.scope [] pm c ctv) := Heap.get?_push_size _ rfl
  exact ⟨⟨pm, ctv, e⟩, ⟨_, e⟩, fun h1 h2 ⟨p, t, z⟩ st => ⟨p, t, st _ z⟩⟩
/-- a closed lambda is made -/
theorem lam_make3 {T : List (Addr × Str)} {c P : Addr} {params : Arguments} {body : Expr} {scope : Scope} {pos : Pos} {E : Value → Shared → Prop} {Q : Value → Shared → Prop} (I : Inv X pins σ H s) (TB : LamX.TabB X.base X.mg c P) (hcode : X.env.code = .ref c)
    (hm : (P, X.env.qual ++ "<lambda>") ∈ T) (hu : ∀ p ∈ T, p.1 = P → p.2 = X.env.qual ++ "<lambda>") (hT : LamX.Tabs T H) (hdef : defaultsOf params X.env = ([], [])) (hfree : ∀ y ∈ scope.names, y.2 ≠ .free) (hcl : cloFrom X.env.cells scope.names [] = [])
    (h : ∀ (f c' : Addr) (H1 : Hp) (s' : Shared), Inv X pins σ H1 s' → LamX.ExtN H H1 → (∀ b, H1 b = none → H b = none) → LamX.Tabs T H1 → H f = none → H1 f = some (LamO f c' ⟨X.env.qual ++ "<lambda>", params, body, scope⟩) → H1 c' = some (LamX.CodeO c' (X.env.qual ++ "<lambda>")) →
      (H c' = none ∨ H c' = some (LamX.CodeO c' (X.env.qual ++ "<lambda>"))) → Q (.ref f) s') :
    wpAny (model X.prog X.w) X.A (eval (.Lambda params body scope pos) X.env) Q E s := by
  obtain ⟨ps, hP, ht, ha⟩ := hT _ hm
  refine PySem.W.kla_eval hdef ?_
  have bP : s.heap.BuiltinsAt X.mg P := TB.bm.keeps I.bk
  have hP' : s.heap.get? P = some { cls := .none, data := .fields ps } := I.hok P _ hP
  have hclo : closureFor scope X.env = pure [] := by rw [← hcl]; exact closure_ok fun y hy e => absurd e (hfree y hy)
  cases hc : codeAmong pos ps.toList with
  | none =>
    refine PySem.W.kla_makeFunction (mg := X.mg) (c := c) (P := P) (ps := ps) hclo I.ok.glob (I.mod.glob.keeps I.bk) hcode (TB.code.keeps I.bk) hP' ht hc TB.gP bP fun c' ctv h' tk hx hge hlt hrec htb => ?_
    obtain ⟨c2, oc, vs, t, e2, hoc, hd, hv⟩ := hrec
    cases e2
    have nC : H c' = none := I.hok.fresh hge
    have I1 := LamX.inv_table (t' := tk) (more := #[rawInt pos.line, rawInt pos.col, .ref c']) (h' := h') I hP (fun b o hb e => hx b o hb e) htb hge ⟨oc, vs, t, hoc, hd, hv⟩
    have hE : LamX.ExtN H (upd (upd H P (.tbl (ps ++ #[rawInt pos.line, rawInt pos.col, .ref c']))) c' (LamX.CodeO c' (X.env.qual ++ "<lambda>"))) := fun b o e n => by
      rw [upd_ne (ne_of_none e nC), upd_ne (fun z => n ps (Option.some.inj (e.symm.trans (by rw [z]; exact hP))))]
      exact e
    have eL : (ps ++ #[rawInt pos.line, rawInt pos.col, .ref c']).toList = ps.toList ++ [rawInt pos.line, rawInt pos.col, .ref c'] := by simp
    have T1 : LamX.Tabs T (upd (upd H P (.tbl (ps ++ #[rawInt pos.line, rawInt pos.col, .ref c']))) c' (LamX.CodeO c' (X.env.qual ++ "<lambda>"))) := fun p hp => by
      by_cases hb : p.1 = P
      · rw [hu p hp hb, hb]
        refine ⟨_, by rw [upd_ne (ne_of_none hP nC), upd_same], by rw [eL]; exact PySem.TriplesOk_snoc _ _ _ _ ht, fun p' cv hcv => ?_⟩
        rw [eL] at hcv
        rcases LamX.among_app _ ht hcv with z | z
        · obtain ⟨c0, e1, e2⟩ := ha p' cv z
          exact ⟨c0, e1, hE _ _ e2 LamX.codeO_ne⟩
        · exact ⟨c', z, upd_same⟩
      · obtain ⟨ps', a1, a2, a3⟩ := hT p hp
        refine ⟨ps', by rw [upd_ne (ne_of_none a1 nC), upd_ne hb]; exact a1, a2, fun p' cv hcv => ?_⟩
        obtain ⟨c0, e1, e2⟩ := a3 p' cv hcv
        exact ⟨c0, e1, hE _ _ e2 LamX.codeO_ne⟩
    have nF := I1.hok.fresh (Nat.le_refl _)
    have I2 := inv_lam (l := ⟨X.env.qual ++ "<lambda>", params, body, scope⟩) (t' := tk) (pm := (X.mg "__name__").getD .none) (ctv := ctv) (c := c') I1 rfl
    refine h h'.objs.size c' _ _ I2 (fun b o e n => ?_) (fun b e => NdefX.upd_none (NdefX.upd_none (NdefX.upd_none e))) (T1.ext fun b o e => ?_) (I.hok.fresh (Nat.le_trans hge (Nat.le_of_lt hlt))) upd_same ?_ (.inl nC)
    · have e1 := hE b o e n
      exact (upd_ne (ne_of_none e1 nF)).trans e1
    · exact (upd_ne (ne_of_none e nF)).trans e
    · exact (upd_ne (Nat.ne_of_lt hlt)).trans upd_same
  | some cv =>
    obtain ⟨c', e, hco⟩ := ha pos cv hc
    subst e
    refine PySem.W.kla_makeFunctionHit (mg := X.mg) (c := c) (P := P) (ps := ps) hclo I.ok.glob (I.mod.glob.keeps I.bk) hcode (TB.code.keeps I.bk) hP' ht hc bP fun ctv h' tk hx hsz => ?_
    have I1 : Inv X pins σ H { s with heap := h', toks := tk } := I.kept hx
    have nF : H h'.objs.size = none := I1.hok.fresh (Nat.le_refl _)
    have I2 := inv_lam (l := ⟨X.env.qual ++ "<lambda>", params, body, scope⟩) (t' := tk) (pm := (X.mg "__name__").getD .none) (ctv := ctv) (c := c') I1 rfl
    refine h h'.objs.size c' _ _ I2 (fun b o e n => ?_) (fun b e => NdefX.upd_none e) (hT.ext fun b o e => ?_) nF upd_same ?_ (.inr hco)
    · exact (upd_ne (ne_of_none e nF)).trans e
    · exact (upd_ne (ne_of_none e nF)).trans e
    · exact (upd_ne (ne_of_none hco nF)).trans hco
end
/-- lambda ..: .. -/
def lamD (n : Nat) : D := .dict [(.none, .int n)]
section
variable {X : Cx} {C : Cd} {m : List Mode} {c P : Addr} {params : Arguments} {body : Expr} {scope : Scope} {pos : Pos} {n : Nat}
theorem pd_lam (TB : LamX.TabB X.base X.mg c P) (hcode : X.env.code = .ref c) (hm : (P, X.env.qual ++ "<lambda>") ∈ LamTab.tabs) (hu : ∀ p ∈ LamTab.tabs, p.1 = P → p.2 = X.env.qual ++ "<lambda>") (hn : LamTab.at_ n = some ⟨X.env.qual ++ "<lambda>", params, body, scope⟩)
    (hdef : defaultsOf params X.env = ([], []) := by rfl) (hfree : ∀ y ∈ scope.names, y.2 ≠ .free := by decide) (hcl : cloFrom X.env.cells scope.names [] = [] := by rfl) :
    PE X (.Lambda params body scope pos) (tE C m true .fz (lit (lamD n))) := by
  refine ⟨fun pins s σ H Q I ⟨ρ, fp, R, p⟩ => ?_⟩
  refine lam_make3 I TB hcode hm hu R.tab hdef hfree hcl fun f c' H1 s' I1 eN there T1 f0 f1 c1 hc => ?_
  have gr : Gr H H1 := ⟨fun b o e nt => eN b o e nt, fun _ => T1, fun b hb z => hb (there b z)⟩
  have no : ¬ own C.M fp c' := fun z => by
    obtain ⟨o, e, _, p2⟩ := R.lv c' z
    rcases hc with y | y
    · rw [y] at e; cases e
    · rw [y] at e; cases e; exact p2 _ rfl
  exact ⟨.ref f, H1, I1, rfl, p (.ref f) H1 fp (fun _ => False) (R.stay gr) (Evo.grow gr) (Qt.gr gr) ⟨.lam hn (hide_of (fun z => R.live f z f0) f1) (hide_of no c1), fun _ z => z⟩⟩
end
/-! ### a closed lambda's promise -/
/-- lambda ps: g -/
def lamFD (n np : Nat) (g : M D) : FD := fun args => if args.length = np then g (envD n args) else .stuck
structure LamF (P : Program) (w : World) (K : PySem.W.Frag) (mg : Str → Option Value) (base : Heap) (k : Nat) (l : LamSyn) (sp : Sp) : Prop where
  go : ∀ (B : Around) (out : List PySem.Env) (z : Shared) (G : Hp) (f c : Addr) (xs : List Value) (ws : List V) (R : VK) (E' : XK), Room k B → B.guards = some [] → Env0 P w K mg base B out z G → G f = some (LamO f c l) → G c = some (LamX.CodeO c l.q) → Vals ws xs → sp ws G R E' →
    codeAny (model P w) B (.call (.ref f) ⟨xs, []⟩) (CR (L2.CX P w) out P w G z R E') z
theorem lamO_at {P : Program} {w : World} {H : Hp} {h : Heap} {f c : Addr} {l : LamSyn} (hok : HOk P w H h) (e : H f = some (LamO f c l)) : ∃ pm ctv : Value, h.get? f = some (PySem.W.kla_obj "<lambda>" l.q l.params l.body l.scope [] pm c ctv) := by
  obtain ⟨z, _, _⟩ := hok f _ e
  exact z
section
variable {P : Program} {w : World} {K : PySem.W.Frag} {mg : Str → Option Value} {base : Heap} {k j : Nat} {l : LamSyn} {ps N : List Str} {ex : ExT} {g : M D} {q : Bool}
theorem LamF.le {sp : Sp} (F : LamF P w K mg base j l sp) (h : j ≤ k) : LamF P w K mg base k l sp := ⟨fun B out z G f c xs ws R E' r => F.go B out z G f c xs ws R E' (r.mono h)⟩
theorem lamF_of (S : FnScope N ps l.scope) (hb : ∀ (pm cv ctv : Value) (us : List Value), us.length = ps.length → bindArgs (PySem.W.kla_fn "<lambda>" l.q l.params l.body l.scope [] pm cv ctv) ⟨us, []⟩ = pure (ps.zip us))
    (der : ∀ (cdv : Value) (A : Around) (outer : List PySem.Env) (f : Addr) (s0 : Shared) (H : Hp) (E : XK) (M : Ad), Room k (A.deeper (envOfC l.q l.scope s0.heap.objs.size f cdv)) →
      Agr (cxOf (L2.CX P w) P w K mg base N l.q l.scope f cdv A outer s0 H E) (cd0 K mg M ex .fz fun c d _ H' => E c d H') →
      PE (cxOf (L2.CX P w) P w K mg base N l.q l.scope f cdv A outer s0 H E) l.body (tE (cd0 K mg M ex .fz fun c d _ H' => E c d H') (fzs N.length) q .fz g)) :
    LamF P w K mg base (k + 1) l (spF K mg ex .fz (lamFD N.length ps.length g)) := by
  refine ⟨fun B out z G f c xs ws R E' hr gd e0 hf hc r ⟨M, ds, hM, tb, hv, post⟩ => ?_⟩
  have hl : ds.length = ps.length := Classical.byContradiction fun y => by
    unfold lamFD at post
    rw [if_neg y] at post
    exact post
  have hx : xs.length = ps.length := by rw [← r.length, hv.length, hl]
  unfold lamFD at post
  rw [if_pos hl] at post
  obtain ⟨pm, ctv, ho⟩ := lamO_at e0.hok hf
  have lim : z.heap.NoLimit := e0.mod.nolimit.keeps fun b o e => (e0.bs b o e).1
  refine PySem.W.kla_callFunE hr.depth ho rfl S.co S.gen rfl (NdefX.codeO_at e0.hok hc) ?_
  rw [hb pm (.ref c) ctv xs hx]
  have kinds : ∀ pr ∈ ps.zip xs, l.scope.names.lookup pr.1 = some .local ∨ (l.scope.names.lookup pr.1 = some .cell ∧ ((cellsFrom (z.heap.objs.size + 1) l.scope.names []).lookup pr.1).isSome = true) := by
    rintro ⟨nm, val⟩ mem
    refine (S.par nm (List.of_mem_zip mem).1).imp id fun cell => ⟨cell, ?_⟩
    exact PySem.W.cellsFrom_some _ _ _ (.inl cell)
  refine wpAny_pure (wpAny_newFunctionEnv_cells S.kind kinds ?_)
  rintro env' rfl z1 made
  refine ⟨lim.keeps made.toInCall.keep, ?_⟩
  have ag : Agr (cxOf (L2.CX P w) P w K mg base N l.q l.scope f (.ref c) B out z G E') (cd0 K mg M ex .fz fun c d _ H' => E' c d H') := ⟨rfl, rfl, S.nd, takes_of rfl rfl rfl rfl, by
    have := (hr.deeper (envOfC l.q l.scope z.heap.objs.size f (.ref c))).un
    show (B.deeper (envOfC l.q l.scope z.heap.objs.size f (.ref c))).units + 65 < cLine
    omega, gd⟩
  have walk := der (.ref c) B out f z G E' M (hr.deeper _) ag
  have begin_ := inv_start (CX := L2.CX P w) (E := E') S hr.hd e0 (hv.length.trans hl) r made
  have now : tE (cd0 K mg M ex .fz fun c d _ H' => E' c d H') (fzs N.length) q .fz g (L2.start N ws) G R := by
    refine ⟨envD N.length ds, fun _ _ => False, rep0 tb hM hv (by rw [hl]; exact pre_len S), ?_⟩
    cases hs : g (envD N.length ds) with
    | ok d ρ' =>
      rw [hs] at post
      exact fun v H' fp' F R' e q r => post v H' ⟨fun b o z nt => e.keep b o z nt fun _ y => y, e.tb, e.there⟩ (r.1.up (hide_less fun a z => .inl z))
    | err c d ρ' =>
      rw [hs] at post
      exact fun m' σ' H' fp' Cc fld dd v em hx R' e _ hn hd is => post Cc fld dd v H' ⟨fun b o z nt => e.keep b o z nt fun _ y => y, e.tb, e.there⟩ hx hn hd (is.up (hide_less fun a z => .inl z))
    | stuck => rw [hs] at post; exact post.elim
  refine PySem.W.kla_codeExpr (wpAny_mono (walk.run [] z1 (L2.start N ws) G R begin_ now) (fun v s' hq => ?_) fun e s' hq => hq)
  obtain ⟨w', H', J', rv, q⟩ := hq
  exact ⟨w', H', J'.os, J'.bare, J'.base, J'.hok, rv, q⟩
end
/-! ### x(e, ..), a slot holds the function -/
/-- the function that a datum tells -/
def fnV (tF : Str → Option FD) (tL : Nat → Option FD) : D → Option FD
  | .dict [(.none, .str x)] => tF x
  | .dict [(.none, .int n)] => if 0 ≤ n then tL n.toNat else none
  | _ => none
def callS (tF : Str → Option FD) (tL : Nat → Option FD) (i : Nat) (a : M (List D)) : M D := bnd (var i) fun fv => match fnV tF tL fv with
  | some f => callE f [] a
  | none => stk
section
variable {X : Cx} {C : Cd} {m : List Mode} {q : Bool} {e : Expr} {es : List Expr} {g : M (List D)} {p pos : Pos} {k i : Nat} {x : Str} {tF : Str → Option FD} {tL : Nat → Option FD}
theorem Is.fnV {K : PySem.W.Frag} {mg : Str → Option Value} {G : Hp} {v : V} {d : D} {f : FD} (h : Is K mg G v d) (e : fnV tF tL d = some f) :
    (∃ a y, v = .ref a ∧ mg y = some (.ref a) ∧ tF y = some f) ∨ ∃ a c n l, v = .ref a ∧ LamTab.at_ n = some l ∧ G a = some (LamO a c l) ∧ G c = some (LamX.CodeO c l.q) ∧ tL n = some f := by
  unfold Dn.fnV at e
  split at e
  · rename_i y
    generalize hd : PyData.dict [(PyData.none, PyData.str y)] = d at h
    cases h with
    | fn h1 => cases hd; exact .inl ⟨_, _, rfl, h1, e⟩
    | lam _ _ _ => cases hd
    | @dT _ kvs ds _ _ => cases hd
    | @dK _ kvs ds _ h2 =>
      cases kvs with
      | nil => cases hd
      | cons p r =>
        cases ds with
        | nil => cases hd
        | cons d ds => obtain ⟨kk, _⟩ := p; cases kk <;> cases hd
    | _ => cases hd
  · rename_i n
    split at e
    · rename_i n0
      generalize hd : PyData.dict [(PyData.none, PyData.int n)] = d at h
      cases h with
      | fn h1 => cases hd
      | @lam a c n' l h1 h2 h3 =>
        have : n = (n' : Int) := by injection hd with hd; simp at hd; exact hd
        subst this
        exact .inr ⟨a, c, n', l, rfl, h1, h2, h3, by simpa using e⟩
      | @dT _ kvs ds _ _ => cases hd
      | @dK _ kvs ds _ h2 =>
        cases kvs with
        | nil => cases hd
        | cons p r =>
          cases ds with
          | nil => cases hd
          | cons d ds => obtain ⟨kk, _⟩ := p; cases kk <;> cases hd
      | _ => cases hd
    · cases e
  · cases e
theorem spF_post {H H1 : Hp} {σ : L2.St} {ρ ρ1 : Env} {fp fp1 : Fp} {Q : VK} {fD : FD} {vs : List V} {xs : List D} (R1 : Rep C m ρ1 σ H1 fp1) (e1 : Evo fp H fp1 H1) (q1 : Qt q ρ ρ1 fp fp1 H H1) (r1 : IsL C.K C.mg (hide (own C.M fp1) H1) vs xs) (hem : C.em m)
    (p1 : Pst C fp H (fun d ρ' => ∀ v H' fp' F, RepK C .fz F m ρ' σ H' fp' → Evo fp H fp' H' → Qt q ρ ρ' fp fp' H H' → Res C .fz H H' fp' v d F → Q v H') (match fD (xs ++ []) with
      | .ok d _ => .ok d ρ1
      | .err c d _ => .err c d ρ1
      | .stuck => .stuck)) : spF C.K C.mg C.ex .fz fD vs H1 Q (WE C.E σ) := by
  refine ⟨own C.M fp1, xs, R1.lv, R1.tab, r1, ?_⟩
  rw [List.append_nil] at p1
  cases hf : fD xs with
  | ok d ρ' =>
    simp only [hf] at p1
    intro v H' gr nw
    obtain ⟨F', Rk, rs⟩ := nw.res (k := .fz) R1 e1 gr
    exact p1 v H' fp1 F' Rk (e1.mono gr) (q1.grw gr) rs
  | err c d ρ' =>
    simp only [hf] at p1
    exact fun Cc fld dv v H' gr hx hn hd is => p1 m σ H' fp1 Cc fld dv v hem hx (R1.stay gr) (e1.mono gr) (R1.nown hn) (e1.none hn) hd is
  | stuck =>
    simp only [hf] at p1
    exact p1.elim
theorem pd_callS (A : Agr X C) (hF : ∀ y f, tF y = some f → ∃ ps, Cal X.prog X.w X.K X.mg X.base k y ps (spF C.K C.mg C.ex .fz f)) (hL : ∀ n l f, tL n = some f → LamTab.at_ n = some l → LamF X.prog X.w X.K X.mg X.base k l (spF C.K C.mg C.ex .fz f)) (hr : Room k X.A)
    (hN : X.N[i]? = some x) (hmi : m[i]? = some .fz) (ha : PA X (e :: es) (tA C m q g)) (hem : C.em m := by first | exact True.intro | rfl)
    (hv : Vis X.env.scope x := by first | exact Or.inl rfl | exact Or.inr (Or.inl rfl) | exact Or.inr (Or.inr rfl)) (hxd : (x == ("__debug__" : Str)) = false := by decide) (hcd : (x == ("__classdict__" : Str)) = false := by decide)
    (he : starEach (e :: es) X.env = (false, eval e X.env) :: starEach es X.env := by rfl) (hpl : (backTo pos (starEach es X.env)).any (·.1) = false := by rfl) : PE X (.Call (.Name x p) (e :: es) [] pos) (tE C m q .fz (callS tF tL i g)) := by
  refine ⟨fun pins s σ H Q I ⟨ρ, fp, R, pp⟩ => ?_⟩
  obtain ⟨d0, h0, pp⟩ : ∃ d0, ρ[i]? = some (some d0) ∧ Pst C fp H (fun d ρ' => ∀ v H' fp' F, RepK C .fz F m ρ' σ H' fp' → Evo fp H fp' H' → Qt q ρ ρ' fp fp' H H' → Res C .fz H H' fp' v d F → Q v H') ((match fnV tF tL d0 with
      | some f => callE f [] g
      | none => stk) ρ) := by
    unfold callS bnd var at pp
    cases h : ρ[i]? with
    | none => simp only [h] at pp; exact pp.elim
    | some o =>
      cases o with
      | none => simp only [h] at pp; exact pp.elim
      | some d => simp only [h] at pp; exact ⟨d, rfl, pp⟩
  obtain ⟨v0, hσ, sl⟩ := R.slot i d0 h0
  rw [hmi] at sl
  have is0 : Is C.K C.mg (hide (own C.M fp) H) v0 d0 := sl
  refine wpAny_Call_Name_kw (thn ((pe_var (pos := p) hN hv hxd hcd).run pins s σ H (fun v H1 => v = v0 ∧ H1 = H) I ⟨v0, hσ, rfl, rfl⟩) fun u s1 ⟨v, H1, I1, r1, q1⟩ => ?_)
  obtain ⟨rfl, rfl⟩ := q1
  cases hfv : fnV tF tL d0 with
  | none => rw [hfv] at pp; exact pp.elim
  | some fD =>
    rw [hfv] at pp
    have ht : tA C m q g σ H1 fun vs H2 => (∃ fp1, grow (hide (own C.M fp) H1) (hide (own C.M fp1) H2)) ∧ spF C.K C.mg C.ex .fz fD vs H2 Q (WE C.E σ) :=
      ⟨ρ, fp, R, pp.bnd.imp fun xs ρ1 p1 vs H2 fp1 R1 e1 q1 r1 => ⟨⟨fp1, e1.fz R.ml⟩, spF_post R1 e1 q1 r1 hem p1⟩⟩
    rcases is0.fnV hfv with ⟨a, y, rfl, hy, hf⟩ | ⟨a, c, n, l, rfl, hn, hla, hlc, hf⟩
    · obtain ⟨ps, f, fd, hm, hk, F, hb⟩ := hF y fD hf
      obtain rfl : f = a := by
        rw [A.mg, hy] at hm
        cases hm
        rfl
      cases r1
      refine PySem.W.callWith_K (h₀ := X.base) I1.ok.mod.kin hk (thn (ha.run pos pins s1 σ H1 _ I1 ht) fun us s2 ⟨vs, H2, I2, r, _, z⟩ => ⟨I2.kIn, ?_⟩) he hpl
      exact runG (E := WE C.E) (us := [] ++ us) (as := us) F hr A.gd (fun s3 kin => by simpa using hb s3 us kin (by rw [List.append_nil]; exact r.length.symm.trans (F.arity _ _ _ _ z))) (passAt A.tk σ) I2 r z
    · cases r1
      have fa : ∀ {H' : Hp} {s' : Shared}, Inv X pins σ H' s' → H' a = some (LamO a c l) → PySem.W.FnAt a s'.heap := fun J e => by
        obtain ⟨pm, ctv, ho⟩ := lamO_at J.hok e
        exact ⟨_, _, _, _, ho⟩
      refine PySem.W.callWith_F (first := []) (fa I1 (hide_raw hla)) (thn (ha.run pos pins s1 σ H1 _ I1 ht) fun us s2 ⟨vs, H2, I2, r, ⟨fp1, gz⟩, z⟩ => ?_) he hpl
      have e1 := hide_raw (gz _ _ hla nt_ext)
      have e2 := hide_raw (gz _ _ hlc nt_ext)
      refine ⟨fa I2 e1, ?_⟩
      show wpAny _ _ (call (.ref a) us) _ _ _
      refine wpAny_call (codeAny_mono ((hL n l fD hf hn).go X.A X.stack s2 H2 a c us vs Q (WE C.E σ) hr A.gd I2.env0 e1 e2 r z) fun res s3 told => ?_)
      cases res with
      | error er => exact passAt A.tk σ pins H2 s2 er s3 I2 told
      | ok flow =>
        cases flow with
        | ret u => exact I2.after told
        | _ => exact told.elim
end
/-! ### paths into the program's text -/
def stB (s : Stmt) (i : Nat) : Stmt := (match s with
  | .For _ _ b _ _ => b
  | .While _ b _ _ => b
  | .If _ b _ _ => b
  | .Try b _ _ _ _ => b
  | .FunctionDef _ _ b _ _ _ _ _ _ _ => b
  | _ => []).getD i (.Pass ⟨0, 0, 0, 0⟩)
def stO (s : Stmt) (i : Nat) : Stmt := (match s with
  | .If _ _ b _ => b
  | _ => []).getD i (.Pass ⟨0, 0, 0, 0⟩)
def noE : Expr := .Constant .none 0 ⟨0, 0, 0, 0⟩
def stE (s : Stmt) : Expr := match s with
  | .For _ e _ _ _ => e
  | .While e _ _ _ => e
  | .If e _ _ _ => e
  | .Assign _ e _ => e
  | .Return (some e) _ => e
  | .Expr e _ => e
  | _ => noE
def exA (e : Expr) (i : Nat) : Expr := (match e with
  | .Tuple xs _ _ => xs
  | .List xs _ => xs
  | .Call _ xs _ _ => xs
  | .BoolOp _ xs _ => xs
  | _ => []).getD i noE
def lamOf (q : Str) (e : Expr) : LamSyn := match e with
  | .Lambda a b s _ => ⟨q, a, b, s⟩
  | _ => ⟨q, { posonlyargs := [], args := [], vararg := none, kwonlyargs := [], kw_defaults := [], kwarg := none, defaults := [] }, noE, { kind := .function, names := [], isGenerator := false, isCoroutine := false, more := [] }⟩
theorem Cal.le {P : Program} {w : World} {K : PySem.W.Frag} {mg : Str → Option Value} {base : Heap} {j k : Nat} {x : Str} {ps : List Str} {sp : Sp} (c : Cal P w K mg base j x ps sp) (h : j ≤ k) : Cal P w K mg base k x ps sp := by
  obtain ⟨f, fd, a, b, F, d⟩ := c
  exact ⟨f, fd, a, b, F.le h, d⟩
end Dn

/-! DnU -/
set_option Elab.async false
set_option linter.all false
set_option maxRecDepth 100000
/-! Dn, part U: the head's facts of exceptions' classes. -/
namespace Dn
open PySem PySem.Spec PyProof PyProof.Rows L2
def oexB (K : PySem.W.Frag) (C : Addr) : Bool := (match K.lookup C with
  | some ⟨.type "type", _, .cls cd, sl⟩ => (match cd.mro, sl.toList with
    | .ref C' :: bm, [_, _, _, _, some (.builtin n), _] => C' == C && n == "ValueError.__new__" && !cd.hasDel && cd.hasDict && PySem.HandSPX.refsVE bm
    | _, _ => false)
  | _ => false) && decide (PySem.W.findIn K (.ref C) "__setattr__" = some (some (.builtin "object.__setattr__"))) && decide (PySem.W.subIn K (.ref C) (.type "BaseException") = some true) && decide (PySem.W.typeIn K (.ref C) = some (.type "type")) && PySem.W.keepIn K (.ref C)
theorem oexB_ok {K : PySem.W.Frag} {C : Addr} (h : oexB K C = true) : OexC K C := by
  unfold oexB at h
  simp only [Bool.and_eq_true, decide_eq_true_eq] at h
  obtain ⟨⟨⟨⟨q, h2⟩, h3⟩, h4⟩, h5⟩ := h
  refine ⟨?_, h2, h3, h4, h5⟩
  split at q
  · rename_i dd cd sl ho
    split at q
    · rename_i C' bm k0 k1 k2 k3 n k5 hm hs
      simp only [Bool.and_eq_true, beq_iff_eq, Bool.not_eq_true'] at q
      obtain ⟨⟨⟨⟨rfl, rfl⟩, hdel⟩, hdi⟩, hr⟩ := q
      obtain ⟨nm, bs, mro, ns, qn, hd, sn, sub, ab, col, del⟩ := cd
      dsimp only at hm hdel hdi
      subst hm hdel hdi
      have hsl : sl = #[k0, k1, k2, k3, some (.builtin "ValueError.__new__"), k5] := by
        obtain ⟨l⟩ := sl
        simp only at hs
        rw [hs]
      subst hsl
      exact ⟨nm, qn, ns, bs, bm, sn, sub, ab, col, dd, k0, k1, k2, k3, k5, ho, hr⟩
    · cases q
  · cases q
/-- what the head must tell of an own exception's class c, whose field is fl, over W -/
structure ExK (K : PySem.W.Frag) (c fl W : Str) : Prop where
  o : OexC K (He.ga K c)
  i : PySem.W.findIn K (.ref (He.ga K c)) "__init__" = some (some (.ref (He.ma K (He.ga K c) "__init__")))
  t : PySem.W.typeIn K (.ref (He.ma K (He.ga K c) "__init__")) = some (.type "function")
  no : PySem.W.findIn K (.ref (He.ga K c)) fl = some none
  rd : XfC K (He.ga K c)
  same : PySem.W.exmOne K (.ref (He.ga K c)) (.ref (He.ga K c)) = some true
  sp : PySem.W.specialIn K (.ref (He.ga K W)) "__getattribute__" = some (some (.builtin "type.__getattribute__"))
  re : PySem.W.readsIn K (He.ga K W) (.type "type") = true
  fi : PySem.W.findCls K (.ref (He.ga K W)) (.type "type") "__init__" = some (.val (.builtin "ValueError.__init__"))
def exkB (K : PySem.W.Frag) (c fl W : Str) : Bool :=
  oexB K (He.ga K c) && decide (PySem.W.findIn K (.ref (He.ga K c)) "__init__" = some (some (.ref (He.ma K (He.ga K c) "__init__")))) &&
  decide (PySem.W.typeIn K (.ref (He.ma K (He.ga K c) "__init__")) = some (.type "function")) && decide (PySem.W.findIn K (.ref (He.ga K c)) fl = some none) && xfB K (He.ga K c) &&
  decide (PySem.W.exmOne K (.ref (He.ga K c)) (.ref (He.ga K c)) = some true) && decide (PySem.W.specialIn K (.ref (He.ga K W)) "__getattribute__" = some (some (.builtin "type.__getattribute__"))) &&
  PySem.W.readsIn K (He.ga K W) (.type "type") && (match PySem.W.findCls K (.ref (He.ga K W)) (.type "type") "__init__" with
    | some (.val v) => decide (v = .builtin "ValueError.__init__")
    | _ => false)
theorem exkB_ok {K : PySem.W.Frag} {c fl W : Str} (h : exkB K c fl W = true) : ExK K c fl W := by
  unfold exkB at h
  simp only [Bool.and_eq_true, decide_eq_true_eq] at h
  obtain ⟨⟨⟨⟨⟨⟨⟨⟨h1, h2⟩, h3⟩, h4⟩, h5⟩, h6⟩, h7⟩, h8⟩, h9⟩ := h
  refine ⟨oexB_ok h1, h2, h3, h4, xfB_ok h5, h6, h7, h8, ?_⟩
  split at h9
  · rename_i v hv
    rw [hv, of_decide_eq_true h9]
  · cases h9
def clB (s : Stmt) (i : Nat) : Stmt := (match s with
  | .ClassDef _ _ _ b _ _ _ _ _ _ _ => b
  | _ => []).getD i (.Pass ⟨0, 0, 0, 0⟩)
/-! ### the hook: also what stands in the statics -/
def asY (g : Addr → Option Obj) (n : Nat) : List Addr := cStatics :: He.asD g n
def frY (g : Addr → Option Obj) (n : Nat) : PySem.W.Frag := He.frT g (asY g n)
def obsY (n : Nat) (fa : List He.Fa) (fn : List He.DefD) (tf : List He.Defn) (ex : PySem.W.Frag → Bool) (g : Addr → Option Obj) : He.AlD × Bool := (He.obsD fa fn (frY g n), ex (frY g n) && He.tabsB g tf (frY g n))
def valY (fn : List He.DefD) : He.AlD × Bool := (He.valD fn, true)
/-- what is told -/
structure SaysY (fa : List He.Fa) (fn : List He.DefD) (tf : List He.Defn) (ex : PySem.W.Frag → Bool) (h : Heap) (K : PySem.W.Frag) : Prop where
  d : He.SaysD fa fn K
  more : ex K = true
  hd : ∀ p ∈ tf, PySem.W.codeHdIn K (He.cT K p).1 (He.cT K p).2 = true
  out : ∀ p ∈ tf, K.lookup (He.cT K p).2 = none
  empty : ∀ p ∈ tf, h.get? (He.cT K p).2 = some { cls := .none, data := .fields #[] }
theorem saysY_of {n : Nat} {fa : List He.Fa} {fn : List He.DefD} {tf : List He.Defn} {ex : PySem.W.Frag → Bool} {h : Heap} (e : obsY n fa fn tf ex h.get? = valY fn) : SaysY fa fn tf ex h (frY h.get? n) := by
  have e1 : He.obsD fa fn (frY h.get? n) = He.valD fn := congrArg Prod.fst e
  have e2 : (ex (frY h.get? n) && He.tabsB h.get? tf (frY h.get? n)) = true := congrArg Prod.snd e
  rw [Bool.and_eq_true] at e2
  have per : ∀ p ∈ tf, PySem.W.codeHdIn (frY h.get? n) (He.cT (frY h.get? n) p).1 (He.cT (frY h.get? n) p).2 = true ∧ ∃ o, h.get? (He.cT (frY h.get? n) p).2 = some o ∧ He.emptyTab o = true := by
    intro p hp
    have z := List.all_eq_true.mp e2.2 p hp
    rw [Bool.and_eq_true] at z
    refine ⟨z.1, ?_⟩
    have z2 := z.2
    split at z2
    · rename_i o ho; exact ⟨o, ho, z2⟩
    · cases z2
  refine ⟨e1, e2.1, fun p hp => (per p hp).1, fun p hp => ?_, fun p hp => ?_⟩
  · obtain ⟨_, o, a, b⟩ := per p hp
    exact He.frT_none a b
  · obtain ⟨_, o, a, b⟩ := per p hp
    rw [a, He.emptyTab_eq b]
def hookY (n : Nat) (fa : List He.Fa) (fn : List He.DefD) (tf : List He.Defn) (ex : PySem.W.Frag → Bool) : PySem.W.Hook where
  α := He.AlD × Bool
  obs := fun s => obsY n fa fn tf ex s.heap.get?
  val := fun _ => valY fn
  says := fun _ h => ∃ K : PySem.W.Frag, K.In h ∧ SaysY fa fn tf ex h K
  of := fun _ _ e => ⟨_, He.frT_in, saysY_of e⟩
  keeps := fun _ _ _ ⟨K, hK, c⟩ k => ⟨K, PySem.W.Frag.In.keeps hK k, ⟨c.d, c.more, c.hd, c.out, fun p hp => k _ _ (c.empty p hp)⟩⟩
theorem obsY_eq {n : Nat} {fa : List He.Fa} {fn : List He.DefD} {tf : List He.Defn} {ex : PySem.W.Frag → Bool} {g : Addr → Option Obj} {s : Shared} (h : ∀ a, g a = s.heap.get? a) : obsY n fa fn tf ex g = (hookY n fa fn tf ex).obs s := by
  obtain rfl : g = s.heap.get? := funext h
  rfl
end Dn

/-! DnV -/
set_option Elab.async false
set_option linter.all false
set_option maxRecDepth 100000
/-! Dn, part V: the law's own call where defs have tables of code objects. -/
namespace Dn
open PySem PySem.Spec PyProof PyProof.Rows L2
section
variable {P : Program} {w : World} {K : PySem.W.Frag} {mg mb : Str → Option Value} {k : Nat} {fa a : Addr} {fd : FuncData} {x : Str} {sp : Sp} {z0 : Shared} {us : List Value} {ns : List Int} {cs : List (Addr × Addr)}
def isTab (cs : List (Addr × Addr)) (b : Addr) : Prop := ∃ p ∈ cs, p.2 = b
/-- what TabB asks, from the heap z0 with G taken out -/
theorem tabB_hid {G : Hp} (hns : z0.heap.Ns mainGlobals mg) (hT : ∀ p ∈ cs, z0.heap.get? p.2 = some { cls := .none, data := .fields #[] }) (C : ∀ p ∈ cs, PySem.W.CodeHd z0.heap p.1 p.2)
    (hbm : ∃ (bm : Addr) (ob : Obj), mg "__builtins__" = some (.ref bm) ∧ bm ≠ builtinsNs ∧ z0.heap.get? bm = some ob ∧ ob.cls = .type "module" ∧ ob.dict = some builtinsNs ∧ ob.data = .plain)
    (free : ∀ c ob, z0.heap.get? c = some ob → (∀ vs n, ob.data ≠ .seq vs n) → ob.data ≠ .fields #[] → G c = none) : ∀ p ∈ cs, LamX.TabB (hidT z0.heap G) mg p.1 p.2 := by
  intro p hp
  have tab := hT p hp
  constructor
  · obtain ⟨o, us, file, tf, flags, tg, inF, text, tt, e1, r1, r2, r3, r4⟩ := C p hp
    refine ⟨o, us, file, tf, flags, tg, inF, text, tt, hidT_get e1 (free _ _ e1 ?_ ?_), r1, r2, r3, r4⟩
    · intro vs n y; rw [r2] at y; cases y
    · intro y
      rw [r2] at y
      cases y
      simp at r3
  · obtain ⟨bm, ob, b1, b2, b3, b4, b5, b6⟩ := hbm
    refine ⟨bm, ob, b1, b2, ?_, ?_, hidT_get b3 (free _ _ b3 ?_ ?_), b4, b5, b6⟩
    · rintro rfl
      obtain ⟨o, es, ep, e, hd, _⟩ := hns
      rw [e] at b3; cases b3
      rw [hd] at b6; cases b6
    · rintro rfl
      rw [tab] at b3; cases b3; cases b6
    · intro vs n y; rw [b6] at y; cases y
    · intro y; rw [b6] at y; cases y
  · intro y
    obtain ⟨o, es, ep, e, hd, _⟩ := hns
    rw [y, tab] at e
    cases e
    cases hd
/-- the law's call, from a heap G in which the script and the tables may be known -/
theorem law_fromT (KX : K.In z0.heap) (hns : z0.heap.Ns mainGlobals mg) (hb : z0.heap.Ns builtinsNs mb) (hbb : ∀ y : Str, y ≠ "__name__" → mb y = bootBuiltins y) (hlim : z0.heap.NoLimit) (hg : z0.gens = #[])
    (hT : ∀ p ∈ cs, z0.heap.get? p.2 = some { cls := .none, data := .fields #[] }) (nT : ∀ p ∈ cs, K.lookup p.2 = none) (C : ∀ p ∈ cs, PySem.W.CodeHd z0.heap p.1 p.2)
    (hbm : ∃ (bm : Addr) (ob : Obj), mg "__builtins__" = some (.ref bm) ∧ bm ≠ builtinsNs ∧ z0.heap.get? bm = some ob ∧ ob.cls = .type "module" ∧ ob.dict = some builtinsNs ∧ ob.data = .plain)
    (ha : z0.heap.get? a = some { cls := .type "list", data := .seq us.toArray }) (hr : Room k callerA)
    (F : ∀ base : Heap, K.In base → base.Ns mainGlobals mg → (∀ p ∈ cs, LamX.TabB base mg p.1 p.2) → FnG P w K mg base k fa fd [x] sp) (hbind : ∀ (s : Shared) (u : Value), BindsTo s fd ⟨[u], []⟩ [(x, u)])
    {G : Hp} (gT : ∀ p ∈ cs, G p.2 = some (.tbl #[])) (only : ∀ c, G c = none ∨ isTab cs c ∨ ∃ ob xs, G c = some (.frz ob (.lst xs))) (want : sp [.ref a] G (fun v _ => v = .bl true) fun _ _ _ => False) (ok : HOk P w G z0.heap)
    (at_a : ∀ c, G c ≠ none → c = a ∨ isTab cs c) (own_ : G a ≠ none → K.lookup a = none) :
    codeAny (model P w) callerA (.call (.ref fa) ⟨[.ref a], []⟩) (fun res z => res = .ok (.ret (.bool true)) ∧ OldK z0.heap z.heap ∧ z.os = z0.os ∧ AllBare z.gens) z0 := by
  have free : ∀ c ob, z0.heap.get? c = some ob → (∀ vs n, ob.data ≠ .seq vs n) → ob.data ≠ .fields #[] → G c = none := by
    intro c ob e h1 h2
    refine Classical.byContradiction fun n => ?_
    rcases at_a c n with rfl | ⟨p, hp, rfl⟩
    · rw [ha] at e; cases e; exact h1 _ _ rfl
    · rw [hT p hp] at e; cases e; exact h2 rfl
  have spaces : ∀ {c : Addr} {m : Str → Option Value}, z0.heap.Ns c m → (hidT z0.heap G).Ns c m := by
    rintro c m ⟨ob, es, ep, e, d, r⟩
    exact ⟨ob, es, ep, hidT_get e (free _ _ e (fun vs n y => by rw [d] at y; cases y) fun y => by rw [d] at y; cases y), d, r⟩
  have inB : K.In (hidT z0.heap G) := by
    intro c ob e
    refine hidT_get (KX c ob e) (Classical.byContradiction fun n => ?_)
    rcases at_a c n with rfl | ⟨p, hp, rfl⟩
    · rw [own_ n] at e; cases e
    · rw [nT p hp] at e; cases e
  obtain ⟨mc, l1, l2⟩ := hlim
  have md : Mod K mg (hidT z0.heap G) := ⟨inB, spaces hns, ⟨mb, spaces hb, hbb⟩, mc, spaces l1, l2⟩
  have env : Env0 P w K mg (hidT z0.heap G) callerA [] z0 G := by
    refine ⟨rfl, md, fun c ob e => of_hidT e, Nat.le_of_eq (hidT_size _ _), trivial, ?_, ok, .of_eq hg⟩
    intro c hc
    cases hc
  refine codeAny_mono ((F _ inB (spaces hns) (tabB_hid hns hT C hbm free)).go callerA [] z0 G ⟨[.ref a], []⟩ [.ref a] [.ref a] _ _ hr rfl env (hbind z0 (.ref a)) (.cons rfl .nil) want) ?_
  intro res z told
  cases res with
  | error er => obtain ⟨_, _, _, _, _, _, _, _, _, _, _, _, no⟩ := told; exact no.elim
  | ok flow =>
    cases flow with
    | ret u =>
      obtain ⟨v, G2, os, bare, un, ok2, ru, q⟩ := told
      have q : v = .bl true := q
      subst q
      have ru : u = Value.bool true := ru
      subst ru
      have plain : ∀ c ob, ¬ isTab cs c → z0.heap.get? c = some ob → z.heap.get? c = some ob := by
        intro c ob nt e
        rcases only c with n | n | ⟨ob2, xs, n⟩
        · exact un.keep c ob e n (by intro y; cases y) (by intro y; cases y)
        · exact absurd n nt
        · obtain ⟨e1, _⟩ := ok c _ n
          obtain ⟨e2, _⟩ := ok2 c _ (un.frzs c ob2 _ n)
          rw [e] at e1
          cases e1
          exact e2
      have tabs : ∀ p ∈ cs, ∃ more : Array Value, z.heap.get? p.2 = some { cls := .none, data := .fields more } := by
        intro p hp
        obtain ⟨more, y⟩ := un.tbls p.2 #[] (gT p hp)
        exact ⟨_, ok2 p.2 _ y⟩
      refine ⟨rfl, ⟨?_, ?_⟩, os, bare⟩
      · intro c ob e
        by_cases h : isTab cs c
        · obtain ⟨p, hp, rfl⟩ := h
          obtain ⟨more, y⟩ := tabs p hp
          rw [hT p hp] at e
          cases e
          exact .inr (.inl ⟨((C p hp).tab (hT p hp)).isCodeTable, rfl, #[], more, rfl, by rw [Array.empty_append]; exact y⟩)
        · exact .inl (plain c ob h e)
      · intro c ob e
        by_cases h : isTab cs c
        · obtain ⟨p, hp, rfl⟩ := h
          obtain ⟨more, y⟩ := tabs p hp
          exact ⟨_, y⟩
        · exact ⟨ob, plain c ob h e⟩
    | _ => exact told.elim
open Classical in
theorem law_callT (KX : K.In z0.heap) (hns : z0.heap.Ns mainGlobals mg) (hb : z0.heap.Ns builtinsNs mb) (hbb : ∀ y : Str, y ≠ "__name__" → mb y = bootBuiltins y) (hlim : z0.heap.NoLimit) (hg : z0.gens = #[])
    (hT : ∀ p ∈ cs, z0.heap.get? p.2 = some { cls := .none, data := .fields #[] }) (nT : ∀ p ∈ cs, K.lookup p.2 = none) (C : ∀ p ∈ cs, PySem.W.CodeHd z0.heap p.1 p.2)
    (hbm : ∃ (bm : Addr) (ob : Obj), mg "__builtins__" = some (.ref bm) ∧ bm ≠ builtinsNs ∧ z0.heap.get? bm = some ob ∧ ob.cls = .type "module" ∧ ob.dict = some builtinsNs ∧ ob.data = .plain)
    (ha : z0.heap.get? a = some { cls := .type "list", data := .seq us.toArray }) (hi : IntsAre us ns) (hl : ns.length ≤ sizeLine) (hr : Room k callerA)
    (F : ∀ base : Heap, K.In base → base.Ns mainGlobals mg → (∀ p ∈ cs, LamX.TabB base mg p.1 p.2) → FnG P w K mg base k fa fd [x] sp) (hbind : ∀ (s : Shared) (u : Value), BindsTo s fd ⟨[u], []⟩ [(x, u)])
    (hsp : ∀ H : Hp, (∀ p ∈ cs, H p.2 = some (.tbl #[])) → SqL K H a (ns.map V.int) → sp [.ref a] H (fun v _ => v = .bl true) fun _ _ _ => False) :
    codeAny (model P w) callerA (.call (.ref fa) ⟨[.ref a], []⟩) (fun res z => res = .ok (.ret (.bool true)) ∧ OldK z0.heap z.heap ∧ z.os = z0.os ∧ AllBare z.gens) z0 := by
  have rv := vals_ints hi
  have lenV := hi.length
  have na : ¬ isTab cs a := fun ⟨p, hp, e⟩ => by
    have y := hT p hp
    rw [e, ha] at y
    have z : Data.seq us.toArray _ = Data.fields #[] := congrArg Obj.data (Option.some.inj y)
    cases z
  let T : Hp := fun c => if isTab cs c then some (.tbl #[]) else none
  have t1 : ∀ c, isTab cs c → T c = some (.tbl #[]) := fun c h => if_pos h
  have t2 : ∀ c, ¬ isTab cs c → T c = none := fun c h => if_neg h
  have tin : ∀ p ∈ cs, isTab cs p.2 := fun p hp => ⟨p, hp, rfl⟩
  have okT : ∀ c u, T c = some u → ObjOk P w T z0.heap c u := fun c u y => by
    by_cases h : isTab cs c
    · rw [t1 c h] at y
      cases y
      obtain ⟨p, hp, rfl⟩ := h
      exact hT p hp
    · rw [t2 c h] at y; cases y
  cases hk : K.lookup a with
  | some o =>
    have e := KX a o hk
    rw [ha] at e
    cases e
    have sq : SqL K T a (ns.map V.int) := .inr ⟨_, us.toArray, _, hk, rfl, rfl, rfl, by rw [List.size_toArray, lenV]; exact hl, by simpa using rv⟩
    refine law_fromT KX hns hb hbb hlim hg hT nT C hbm ha hr F hbind (G := T) (fun p hp => t1 _ (tin p hp)) (fun c => ?_) (hsp T (fun p hp => t1 _ (tin p hp)) sq) okT (fun c y => ?_) fun y => absurd (t2 a na) y
    · by_cases h : isTab cs c
      · exact .inr (.inl h)
      · exact .inl (t2 c h)
    · by_cases h : isTab cs c
      · exact .inr h
      · exact absurd (t2 c h) y
  | none =>
    let G : Hp := fun c => if c = a then some (.frz { cls := .type "list", data := .seq us.toArray } (.lst (ns.map V.int))) else T c
    have g1 : G a = some (.frz { cls := .type "list", data := .seq us.toArray } (.lst (ns.map V.int))) := if_pos rfl
    have g2 : ∀ c, c ≠ a → G c = T c := fun c n => if_neg n
    have gT : ∀ p ∈ cs, G p.2 = some (.tbl #[]) := fun p hp => by
      rw [g2 p.2 fun e => na (by rw [← e]; exact tin p hp)]
      exact t1 _ (tin p hp)
    refine law_fromT KX hns hb hbb hlim hg hT nT C hbm ha hr F hbind (G := G) gT (fun c => ?_) (hsp G gT (.inl (.inr ⟨_, g1⟩))) (fun c u y => ?_) (fun c y => ?_) fun _ => hk
    · by_cases e : c = a
      · rw [e]; exact .inr (.inr ⟨_, _, g1⟩)
      · rw [g2 c e]
        by_cases h : isTab cs c
        · exact .inr (.inl h)
        · exact .inl (t2 c h)
    · by_cases e : c = a
      · subst e
        rw [g1] at y
        cases y
        exact ⟨ha, by rw [List.length_map]; exact hl, us, _, rv, ha⟩
      · rw [g2 c e] at y
        by_cases h : isTab cs c
        · rw [t1 c h] at y
          cases y
          obtain ⟨p, hp, rfl⟩ := h
          exact hT p hp
        · rw [t2 c h] at y; cases y
    · by_cases e : c = a
      · exact .inl e
      · rw [g2 c e] at y
        by_cases h : isTab cs c
        · exact .inr h
        · exact absurd (t2 c h) y
/-- a law, by its def's promise over every base -/
theorem walk_GT {l : PySem.W.OpenLaw} {n k : Nat} {q : Program} {loose : List Str} {XP : (Str → Option Value) → Heap → Prop} {YP : World → Heap → Prop} {d : DefRec} {x : Str} (hn : l.most = some n) (hn2 : n ≤ sizeLine) (hdf : d.params.defaults = []) (hr : Room k callerA)
    (F : ∀ (w : World) (mg : Str → Option Value) (fa : Addr) (h : Heap), YP w h → h.Ns mainGlobals mg → mg d.name = some (.ref fa) →
      ∃ (K : PySem.W.Frag) (fd : FuncData) (cs : List (Addr × Addr)) (sp : Sp), K.In h ∧ (∀ p ∈ cs, h.get? p.2 = some { cls := .none, data := .fields #[] }) ∧ (∀ p ∈ cs, K.lookup p.2 = none) ∧ (∀ p ∈ cs, PySem.W.CodeHd h p.1 p.2) ∧ (∀ (s : Shared) (u : Value), BindsTo s fd ⟨[u], []⟩ [(x, u)]) ∧
        (∀ (H : Hp) (a : Addr) (ns : List Int), ns.length ≤ n → (∀ z ∈ ns, Builtin.Int.intBits z ≤ 1048576) → (∀ p ∈ cs, H p.2 = some (.tbl #[])) → SqL K H a (ns.map V.int) → sp [.ref a] H (fun v _ => v = .bl true) fun _ _ _ => False) ∧
        ∀ base : Heap, K.In base → base.Ns mainGlobals mg → (∀ p ∈ cs, LamX.TabB base mg p.1 p.2) → FnG l.prog w K mg base k fa fd [x] sp) :
    PySem.W.WalkO q loose XP YP l.row.toRowW d [] (fun f vs => PySem.call f vs) := by
  refine Att.attach_callB hn hdf ?_
  intro w s₀ s₁ mg mb fa o pm cd doc a vs ns G Y ho hd hcd hmg hobj hints hlen hbits hg
  obtain ⟨K, fd, cs, sp, KX, hT, nT, C, hb, hsp, hF⟩ := F w mg fa _ Y G.T.g hmg
  exact law_callT KX G.T.g G.T.b G.T.builtins G.T.nolimit hg hT nT C G.T.bmain hobj hints (Nat.le_trans hlen hn2) hr hF hb fun H hH hS => hsp H a ns hlen hbits hH hS
end
end Dn

/-! DnW -/
set_option Elab.async false
set_option linter.all false
set_option maxRecDepth 100000
/-! Dn, part W: reckoning with denotations. -/
namespace Dn
open PySem
/-- a call's end, without its names -/
inductive Rz where
  | ok (d : D)
  | err (c : Str) (d : D)
  | stuck
def res : Out D → Rz
  | .ok d _ => .ok d
  | .err c d _ => .err c d
  | .stuck => .stuck
/-- keeps simp out of what follows -/
abbrev TG {α : Type} {β : Type} (Q : α) (E : β) : Type := Unit
inductive W0 {α : Type} (Q : α → Env → Prop) (E : Str → D → Env → Prop) : Out α → Prop where
  | ok {a : α} {ρ : Env} (h : Q a ρ) : W0 Q E (.ok a ρ)
  | err {c : Str} {d : D} {ρ : Env} (h : E c d ρ) : W0 Q E (.err c d ρ)
/-- what is wanted of an end -/
def W {α : Type} (o : Out α) (Q : α → Env → Prop) (E : Str → D → Env → Prop) (_u : TG Q E := ()) : Prop := W0 Q E o
inductive WR0 (ρ : Env) (Q : D → Env → Prop) (E : Str → D → Env → Prop) : Rz → Prop where
  | ok {d : D} (h : Q d ρ) : WR0 ρ Q E (.ok d)
  | err {c : Str} {d : D} (h : E c d ρ) : WR0 ρ Q E (.err c d)
def WR (r : Rz) (ρ : Env) (Q : D → Env → Prop) (E : Str → D → Env → Prop) (_u : TG Q E := ()) : Prop := WR0 ρ Q E r
/-- of an option -/
inductive WO0 {α : Type} (Q : α → Prop) : Option α → Prop where
  | some {a : α} (h : Q a) : WO0 Q (some a)
def WO {α : Type} (o : Option α) (Q : α → Prop) (_u : TG Q () := ()) : Prop := WO0 Q o
/-- of a test -/
inductive WI0 (P N : Unit → Prop) : Bool → Prop where
  | yes (h : P ()) : WI0 P N true
  | no (h : N ()) : WI0 P N false
def WI (b : Bool) (P N : Unit → Prop) (_u : TG P N := ()) : Prop := WI0 P N b
/-- a slot's datum -/
inductive SL0 (k : D → Prop) : Option (Option D) → Prop where
  | mk {d : D} (h : k d) : SL0 k (some (some d))
def slot (o : Option (Option D)) (k : D → Prop) (_u : TG k () := ()) : Prop := SL0 k o
section
variable {α β : Type} {Q : α → Env → Prop} {E : Str → D → Env → Prop} {ρ : Env}
theorem W_ok {a : α} : W (.ok a ρ) Q E = Q a ρ := propext ⟨fun h => by cases h; assumption, fun h => .ok h⟩
theorem W_err {c : Str} {d : D} : W (.err c d ρ : Out α) Q E = E c d ρ := propext ⟨fun h => by cases h; assumption, fun h => .err h⟩
theorem W_stk : W (.stuck : Out α) Q E = False := propext ⟨fun h => (nomatch h), fun h => h.elim⟩
theorem W_mono {Q' : α → Env → Prop} {E' : Str → D → Env → Prop} {o : Out α} (h : W o Q E) (hq : ∀ a ρ, Q a ρ → Q' a ρ) (he : ∀ c d ρ, E c d ρ → E' c d ρ) : W o Q' E' := by
  cases h with
  | ok h => exact .ok (hq _ _ h)
  | err h => exact .err (he _ _ _ h)
theorem W_impQ {Q' : α → Env → Prop} {o : Out α} (h : W o Q E) (hq : ∀ a ρ, Q a ρ → Q' a ρ) : W o Q' E := W_mono h hq fun _ _ _ z => z
theorem WR_ok {d : D} {Q : D → Env → Prop} : WR (.ok d) ρ Q E = Q d ρ := propext ⟨fun h => by cases h; assumption, fun h => .ok h⟩
theorem WR_err {c : Str} {d : D} {Q : D → Env → Prop} : WR (.err c d) ρ Q E = E c d ρ := propext ⟨fun h => by cases h; assumption, fun h => .err h⟩
theorem WR_stk {Q : D → Env → Prop} : WR .stuck ρ Q E = False := propext ⟨fun h => (nomatch h), fun h => h.elim⟩
theorem WO_some {a : α} {Q : α → Prop} : WO (some a) Q = Q a := propext ⟨fun h => by cases h; assumption, fun h => .some h⟩
theorem WO_none {Q : α → Prop} : WO (none : Option α) Q = False := propext ⟨fun h => (nomatch h), fun h => h.elim⟩
theorem WI_true {P N : Unit → Prop} : WI true P N = P () := propext ⟨fun h => by cases h; assumption, fun h => .yes h⟩
theorem WI_false {P N : Unit → Prop} : WI false P N = N () := propext ⟨fun h => by cases h; assumption, fun h => .no h⟩
theorem WI_split {b : Bool} {P N : Unit → Prop} (hp : b = true → P ()) (hn : b = false → N ()) : WI b P N := by
  cases b with
  | true => exact .yes (hp rfl)
  | false => exact .no (hn rfl)
theorem WI_dec {p : Prop} [Decidable p] {P N : Unit → Prop} (hp : p → P ()) (hn : ¬ p → N ()) : WI (decide p) P N := WI_split (fun h => hp (of_decide_eq_true h)) fun h => hn (of_decide_eq_false h)
theorem WI_ndec {p : Prop} [Decidable p] {P N : Unit → Prop} (hp : p → N ()) (hn : ¬ p → P ()) : WI (!decide p) P N := WI_split (fun h => hn (by simpa using h)) fun h => hp (by simpa using h)
theorem W_ext {Q' : α → Env → Prop} {o : Out α} (h : ∀ a ρ, Q a ρ = Q' a ρ) : W o Q E = W o Q' E := by
  cases o with
  | ok a ρ => rw [W_ok, W_ok]; exact h a ρ
  | err c d ρ => rw [W_err, W_err]
  | stuck => rw [W_stk, W_stk]
theorem WO_ext {Q Q' : α → Prop} {o : Option α} (h : ∀ a, Q a = Q' a) : WO o Q = WO o Q' := by
  cases o with
  | some a => rw [WO_some, WO_some]; exact h a
  | none => rw [WO_none, WO_none]
theorem WI_ext {P P' N N' : Unit → Prop} {b : Bool} (h : P () = P' ()) (h' : N () = N' ()) : WI b P N = WI b P' N' := by
  cases b with
  | true => rw [WI_true, WI_true]; exact h
  | false => rw [WI_false, WI_false]; exact h'
theorem W_bnd {x : M β} {f : β → M α} : W (bnd x f ρ) Q E = W (x ρ) (fun a ρ' => W (f a ρ') Q E) E := by
  unfold bnd
  cases x ρ <;> simp only [W_ok, W_err, W_stk]
theorem W_ret {a : α} : W (ret a ρ) Q E = Q a ρ := W_ok
theorem W_lft {o : Option α} : W (lft o ρ) Q E = WO o fun a => Q a ρ := by
  cases o <;> simp only [lft, W_ok, W_stk, WO_some, WO_none]
theorem slot_some {d : D} {k : D → Prop} : slot (some (some d)) k = k d := propext ⟨fun h => by cases h; assumption, fun h => .mk h⟩
theorem slot_none {k : D → Prop} : slot none k = False := propext ⟨fun h => (nomatch h), fun h => h.elim⟩
theorem slot_snone {k : D → Prop} : slot (some none) k = False := propext ⟨fun h => (nomatch h), fun h => h.elim⟩
theorem slot_ext {o : Option (Option D)} {k k' : D → Prop} (h : ∀ d, k d = k' d) : slot o k = slot o k' := by
  cases o with
  | none => rw [slot_none, slot_none]
  | some o =>
    cases o with
    | none => rw [slot_snone, slot_snone]
    | some d => rw [slot_some, slot_some]; exact h d
theorem W_var {i : Nat} {Q : D → Env → Prop} : W (var i ρ) Q E = slot ρ[i]? fun d => Q d ρ := by
  unfold var
  cases ρ[i]? with
  | none => simp only [W_stk, slot_none]
  | some o => cases o <;> simp only [W_stk, W_ok, slot_some, slot_snone]
theorem W_lit {d : D} {Q : D → Env → Prop} : W (lit d ρ) Q E = Q d ρ := W_ok
theorem W_un {f : Op1} {a : M D} {Q : D → Env → Prop} : W (un f a ρ) Q E = W (a ρ) (fun x ρ1 => WO (f x) fun z => Q z ρ1) E := by
  unfold un; rw [W_bnd]; exact W_ext fun _ _ => W_lft
theorem W_bin {f : Op2} {a b : M D} {Q : D → Env → Prop} : W (bin f a b ρ) Q E = W (a ρ) (fun x ρ1 => W (b ρ1) (fun y ρ2 => WO (f x y) fun z => Q z ρ2) E) E := by
  unfold bin; rw [W_bnd]; exact W_ext fun _ _ => W_bnd.trans (W_ext fun _ _ => W_lft)
theorem W_app {f : List D → Option D} {a : M (List D)} {Q : D → Env → Prop} : W (app f a ρ) Q E = W (a ρ) (fun x ρ1 => WO (f x) fun z => Q z ρ1) E := by
  unfold app; rw [W_bnd]; exact W_ext fun _ _ => W_lft
theorem W_itV {a : M D} {Q : List D → Env → Prop} : W (itV a ρ) Q E = W (a ρ) (fun x ρ1 => WO (itemsD x) fun z => Q z ρ1) E := by
  unfold itV; rw [W_bnd]; exact W_ext fun _ _ => W_lft
theorem W_itA {f : List D → Option (List D)} {a : M (List D)} {Q : List D → Env → Prop} : W (itA f a ρ) Q E = W (a ρ) (fun x ρ1 => WO (f x) fun z => Q z ρ1) E := by
  unfold itA; rw [W_bnd]; exact W_ext fun _ _ => W_lft
theorem W_nilA {Q : List D → Env → Prop} : W (nilA ρ) Q E = Q [] ρ := W_ok
theorem W_consA {a : M D} {r : M (List D)} {Q : List D → Env → Prop} : W (consA a r ρ) Q E = W (a ρ) (fun x ρ1 => W (r ρ1) (fun xs ρ2 => Q (x :: xs) ρ2) E) E := by
  unfold consA; rw [W_bnd]; exact W_ext fun _ _ => W_bnd.trans (W_ext fun _ _ => W_ret)
theorem W_tupE {a : M (List D)} {Q : D → Env → Prop} : W (tupE a ρ) Q E = W (a ρ) (fun xs ρ1 => xs.length ≤ lineN ∧ Q (.tuple xs) ρ1) E := by
  unfold tupE; rw [W_bnd]
  refine W_ext fun xs ρ1 => ?_
  by_cases h : xs.length ≤ lineN
  · rw [if_pos h]; simp only [h, true_and, W_ret]
  · rw [if_neg h]; simp only [h, false_and]; exact W_stk
theorem W_lstE {a : M (List D)} {Q : D → Env → Prop} : W (lstE a ρ) Q E = W (a ρ) (fun xs ρ1 => xs.length ≤ lineN ∧ Q (.list xs) ρ1) E := by
  unfold lstE; rw [W_bnd]
  refine W_ext fun xs ρ1 => ?_
  by_cases h : xs.length ≤ lineN
  · rw [if_pos h]; simp only [h, true_and, W_ret]
  · rw [if_neg h]; simp only [h, false_and]; exact W_stk
theorem W_test {a : M D} {Q : Bool → Env → Prop} : W (test a ρ) Q E = W (a ρ) (fun x ρ1 => WO (truthD x) fun z => Q z ρ1) E := by
  unfold test; rw [W_bnd]; exact W_ext fun _ _ => W_lft
theorem W_testB {a : M D} {Q : Bool → Env → Prop} : W (testB a ρ) Q E = W (a ρ) (fun x ρ1 => WO (boolOf x) fun z => Q z ρ1) E := by
  unfold testB; rw [W_bnd]; exact W_ext fun _ _ => W_lft
theorem W_notT {a : M Bool} {Q : Bool → Env → Prop} : W (notT a ρ) Q E = W (a ρ) (fun b ρ1 => Q (!b) ρ1) E := by
  unfold notT; rw [W_bnd]; exact W_ext fun _ _ => W_ret
theorem WI_ite {b : Bool} {x y : M α} : W ((if b = true then x else y) ρ) Q E = WI b (fun _ => W (x ρ) Q E) (fun _ => W (y ρ) Q E) := by
  cases b
  · rw [WI_false]; rfl
  · rw [WI_true]; rfl
theorem W_andT {a b : M Bool} {Q : Bool → Env → Prop} : W (andT a b ρ) Q E = W (a ρ) (fun x ρ1 => WI x (fun _ => W (b ρ1) Q E) (fun _ => Q false ρ1)) E := by
  unfold andT; rw [W_bnd]; exact W_ext fun _ _ => WI_ite.trans (WI_ext rfl W_ret)
theorem W_orT {a b : M Bool} {Q : Bool → Env → Prop} : W (orT a b ρ) Q E = W (a ρ) (fun x ρ1 => WI x (fun _ => Q true ρ1) (fun _ => W (b ρ1) Q E)) E := by
  unfold orT; rw [W_bnd]; exact W_ext fun _ _ => WI_ite.trans (WI_ext W_ret rfl)
theorem W_andV {a b : M D} {Q : D → Env → Prop} : W (andV a b ρ) Q E = W (a ρ) (fun x ρ1 => WO (boolOf x) fun x => WI x (fun _ => W (b ρ1) Q E) (fun _ => Q (.bool false) ρ1)) E := by
  unfold andV; rw [W_bnd, W_testB]; exact W_ext fun _ _ => WO_ext fun _ => WI_ite.trans (WI_ext rfl W_ret)
theorem W_orV {a b : M D} {Q : D → Env → Prop} : W (orV a b ρ) Q E = W (a ρ) (fun x ρ1 => WO (boolOf x) fun x => WI x (fun _ => Q (.bool true) ρ1) (fun _ => W (b ρ1) Q E)) E := by
  unfold orV; rw [W_bnd, W_testB]; exact W_ext fun _ _ => WO_ext fun _ => WI_ite.trans (WI_ext W_ret rfl)
theorem W_notV {a : M D} {Q : D → Env → Prop} : W (notV a ρ) Q E = W (a ρ) (fun x ρ1 => WO (boolOf x) fun b => Q (.bool (!b)) ρ1) E := by
  unfold notV; rw [W_bnd, W_testB]; exact W_ext fun _ _ => WO_ext fun _ => W_ret
theorem W_ifE {c : M Bool} {a b : M D} {Q : D → Env → Prop} : W (ifE c a b ρ) Q E = W (c ρ) (fun x ρ1 => WI x (fun _ => W (a ρ1) Q E) (fun _ => W (b ρ1) Q E)) E := by
  unfold ifE; rw [W_bnd]; exact W_ext fun _ _ => WI_ite
theorem W_chn {f g : Op2} {a b c : M D} {Q : D → Env → Prop} : W (chn f g a b c ρ) Q E = W (a ρ) (fun x ρ1 => W (b ρ1) (fun y ρ2 => WO (f x y) fun z => WO (boolOf z) fun k => WI k (fun _ => W (c ρ2) (fun w ρ3 => WO (g y w) fun z => Q z ρ3) E) (fun _ => Q (.bool false) ρ2)) E) E := by
  unfold chn; rw [W_bnd]; exact W_ext fun _ _ => W_bnd.trans (W_ext fun _ _ => W_bnd.trans (W_lft.trans (WO_ext fun _ => W_bnd.trans (W_lft.trans (WO_ext fun _ => WI_ite.trans (WI_ext (W_bnd.trans (W_ext fun _ _ => W_lft)) W_ret))))))
theorem W_sliU {a : M D} {lo hi : PartM} {Q : D → Env → Prop} : W (sliU a lo hi ρ) Q E = W (a ρ) (fun x ρ1 => W (lo ρ1) (fun l ρ2 => W (hi ρ2) (fun h ρ3 => WO (slU x l h) fun z => Q z ρ3) E) E) E := by
  unfold sliU; rw [W_bnd]; exact W_ext fun _ _ => W_bnd.trans (W_ext fun _ _ => W_bnd.trans (W_ext fun _ _ => W_lft))
theorem W_noPart {Q : Option Int → Env → Prop} : W (noPart ρ) Q E = Q none ρ := W_ok
theorem W_part {a : M D} {Q : Option Int → Env → Prop} : W (part a ρ) Q E = W (a ρ) (fun x ρ1 => WO (intOf x) fun i => Q (some i) ρ1) E := by
  unfold part; rw [W_bnd]; exact W_ext fun _ _ => W_bnd.trans (W_lft.trans (WO_ext fun _ => W_ret))
/-! ### statements -/
variable {Qs : Flow → Env → Prop}
theorem W_sq {s t : S} : W (sq s t ρ) Qs E = W (s ρ) (fun f ρ1 => match f with | .next => W (t ρ1) Qs E | f => Qs f ρ1) E := by
  unfold sq; rw [W_bnd]
  refine W_ext fun f ρ1 => ?_
  cases f <;> first | rfl | exact W_ret
theorem W_nx : W (nx ρ) Qs E = Qs .next ρ := W_ok
theorem W_asg {i : Nat} {a : M D} : W (asg i a ρ) Qs E = W (a ρ) (fun x ρ1 => Qs .next (ρ1.set i (some x))) E := by
  unfold asg; rw [W_bnd]; exact W_ext fun _ _ => W_ok
theorem W_drp {a : M D} : W (drp a ρ) Qs E = W (a ρ) (fun _ ρ1 => Qs .next ρ1) E := by
  unfold drp; rw [W_bnd]; exact W_ext fun _ _ => W_ok
theorem W_rtn {a : M D} : W (rtn a ρ) Qs E = W (a ρ) (fun x ρ1 => Qs (.rt x) ρ1) E := by
  unfold rtn; rw [W_bnd]; exact W_ext fun _ _ => W_ok
theorem W_ifS {c : M Bool} {s t : S} : W (ifS c s t ρ) Qs E = W (c ρ) (fun x ρ1 => WI x (fun _ => W (s ρ1) Qs E) (fun _ => W (t ρ1) Qs E)) E := by
  unfold ifS; rw [W_bnd]; exact W_ext fun _ _ => WI_ite
theorem W_rai {c : Str} {a : M D} : W (rai c a ρ) Qs E = W (a ρ) (fun x ρ1 => E c x ρ1) E := by
  unfold rai; rw [W_bnd]; exact W_ext fun _ _ => W_err
theorem W_fgt {is : List Nat} {s : S} : W (fgt is s ρ) Qs E = W (s (forget is ρ)) Qs E := rfl
theorem forget_nil : forget [] ρ = ρ := rfl
theorem forget_cons {i : Nat} {is : List Nat} : forget (i :: is) ρ = forget is (ρ.set i none) := rfl
theorem W_brkS : W (brkS ρ) Qs E = Qs .brk ρ := W_ok
theorem W_cntS : W (cntS ρ) Qs E = Qs .cont ρ := W_ok
theorem W_asgL {is : List Nat} {f : M (List D)} : W (asgL is f ρ) Qs E = W (f ρ) (fun ds ρ1 => Qs .next (setE ρ1 is ds)) E := by
  unfold asgL; rw [W_bnd]; exact W_ext fun _ _ => W_ok
theorem setE_cons {i : Nat} {is : List Nat} {d : D} {ds : List D} : setE ρ (i :: is) (d :: ds) = setE (ρ.set i (some d)) is ds := rfl
theorem setE_nil {is : List Nat} : setE ρ is [] = ρ := by cases is <;> rfl
theorem setE_nil' {ds : List D} : setE ρ [] ds = ρ := by cases ds <;> rfl
theorem W_asgT {t : Tg} {a : M D} : W (asgT t a ρ) Qs E = W (a ρ) (fun x ρ1 => W (t x ρ1) (fun _ ρ2 => Qs .next ρ2) E) E := by
  unfold asgT; rw [W_bnd]; exact W_ext fun _ _ => W_bnd.trans (W_ext fun _ _ => W_nx)
theorem W_tgN {i : Nat} {d : D} {Q : Unit → Env → Prop} : W (tgN i d ρ) Q E = Q () (ρ.set i (some d)) := W_ok
theorem W_tgT {ts : List Tg} {ds : List D} {Q : Unit → Env → Prop} : W (tgT ts (.tuple ds) ρ) Q E = (ds.length = ts.length ∧ W (tgs ts ds ρ) Q E) := by
  unfold tgT
  by_cases h : ds.length = ts.length
  · simp [h]
  · simp only [h, if_false, false_and]; exact W_stk
theorem W_tgs_nil {Q : Unit → Env → Prop} : W (tgs [] [] ρ) Q E = Q () ρ := W_ok
theorem W_tgs_cons {t : Tg} {ts : List Tg} {d : D} {ds : List D} {Q : Unit → Env → Prop} : W (tgs (t :: ts) (d :: ds) ρ) Q E = W (t d ρ) (fun _ ρ1 => W (tgs ts ds ρ1) Q E) E := by
  show W (bnd (t d) (fun _ => tgs ts ds) ρ) Q E = _
  rw [W_bnd]
theorem W_chk {p : D → Bool} {i : Nat} {Q : Unit → Env → Prop} : W (chk p i ρ) Q E = slot ρ[i]? fun d => p d = true ∧ Q () ρ := by
  unfold chk
  cases ρ[i]? with
  | none => simp only [W_stk, slot_none]
  | some o =>
    cases o with
    | none => simp only [W_stk, slot_snone]
    | some d => cases hp : p d <;> simp [W_ok, W_stk, hp, slot_some]
theorem W_updI {i : Nat} {f : D → Option D} : W (updI i f ρ) Qs E = slot ρ[i]? fun d => WO (f d) fun d' => Qs .next (ρ.set i (some d')) := by
  unfold updI
  cases ρ[i]? with
  | none => simp only [W_stk, slot_none]
  | some o =>
    cases o with
    | none => simp only [W_stk, slot_snone]
    | some d => cases hp : f d <;> simp [W_ok, W_stk, WO_some, WO_none, hp, slot_some]
theorem W_appS {i : Nat} {e : M D} : W (appS i e ρ) Qs E = slot ρ[i]? fun d => isL d = true ∧ W (e ρ) (fun y ρ1 => slot ρ1[i]? fun d => WO (appD y d) fun d' => Qs .next (ρ1.set i (some d'))) E := by
  unfold appS; rw [W_bnd, W_chk]; exact slot_ext fun _ => congrArg _ (W_bnd.trans (W_ext fun _ _ => W_updI))
theorem W_setS {i : Nat} {k e : M D} : W (setS i k e ρ) Qs E = W (e ρ) (fun y ρ1 => slot ρ1[i]? fun d => isL d = true ∧ W (k ρ1) (fun k ρ2 => slot ρ2[i]? fun d => WO (setD k y d) fun d' => Qs .next (ρ2.set i (some d'))) E) E := by
  unfold setS; rw [W_bnd]; exact W_ext fun _ _ => W_bnd.trans (W_chk.trans (slot_ext fun _ => congrArg _ (W_bnd.trans (W_ext fun _ _ => W_updI))))
theorem W_setS2 {i : Nat} {k1 k2 e : M D} : W (setS2 i k1 k2 e ρ) Qs E = W (e ρ) (fun y ρ1 => slot ρ1[i]? fun d => isL d = true ∧ W (k1 ρ1) (fun k1 ρ2 => slot ρ2[i]? fun d => isLL k1 d = true ∧ W (k2 ρ2) (fun k2 ρ3 => slot ρ3[i]? fun d => WO (set2D k1 k2 y d) fun d' => Qs .next (ρ3.set i (some d'))) E) E) E := by
  unfold setS2; rw [W_bnd]; exact W_ext fun _ _ => W_bnd.trans (W_chk.trans (slot_ext fun _ => congrArg _ (W_bnd.trans (W_ext fun _ _ => W_bnd.trans (W_chk.trans (slot_ext fun _ => congrArg _ (W_bnd.trans (W_ext fun _ _ => W_updI))))))))
theorem W_augS {i : Nat} {o : Op2} {k e : M D} : W (augS i o k e ρ) Qs E = slot ρ[i]? fun d => isL d = true ∧ W (k ρ) (fun k ρ1 => slot ρ1[i]? fun x => WO (itemD x k) fun x => W (e ρ1) (fun y ρ2 => WO (o x y) fun z => slot ρ2[i]? fun d => WO (setD k z d) fun d' => Qs .next (ρ2.set i (some d'))) E) E := by
  unfold augS; rw [W_bnd, W_chk]; exact slot_ext fun _ => congrArg _ (W_bnd.trans (W_ext fun _ _ => W_bnd.trans (W_bnd.trans (W_var.trans (slot_ext fun _ => W_lft.trans (WO_ext fun _ => W_bnd.trans (W_ext fun _ _ => W_bnd.trans (W_lft.trans (WO_ext fun _ => W_updI)))))))))
theorem W_putS {i : Nat} {k e : M D} : W (putS i k e ρ) Qs E = W (e ρ) (fun y ρ1 => slot ρ1[i]? fun d => isKD d = true ∧ W (k ρ1) (fun k ρ2 => slot ρ2[i]? fun d => WO (dputD k y d) fun d' => Qs .next (ρ2.set i (some d'))) E) E := by
  unfold putS; rw [W_bnd]; exact W_ext fun _ _ => W_bnd.trans (W_chk.trans (slot_ext fun _ => congrArg _ (W_bnd.trans (W_ext fun _ _ => W_updI))))
theorem W_popM {i : Nat} {g h : D → Option D} {Q : D → Env → Prop} : W (popM i g h ρ) Q E = slot ρ[i]? fun d => WO (g d) fun u => WO (h d) fun d' => Q u (ρ.set i (some d')) := by
  unfold popM
  cases ρ[i]? with
  | none => simp only [W_stk, slot_none]
  | some o =>
    cases o with
    | none => simp only [W_stk, slot_snone]
    | some d =>
      rw [slot_some]
      cases hg : g d with
      | none => simp [W_stk, WO_none, hg]
      | some u => cases hh : h d <;> simp [W_ok, W_stk, WO_some, WO_none, hg, hh]
theorem W_popE {i : Nat} {Q : D → Env → Prop} : W (popE i ρ) Q E = slot ρ[i]? fun d => isL d = true ∧ slot ρ[i]? fun d => WO (lastD d) fun u => WO (cutLastD d) fun d' => Q u (ρ.set i (some d')) := by
  unfold popE; rw [W_bnd, W_chk]; exact slot_ext fun _ => congrArg _ W_popM
theorem W_popAtE {i : Nat} {k : M D} {Q : D → Env → Prop} : W (popAtE i k ρ) Q E = slot ρ[i]? fun d => isL d = true ∧ W (k ρ) (fun k ρ1 => slot ρ1[i]? fun d => WO (pickD k d) fun u => WO (eraseD k d) fun d' => Q u (ρ1.set i (some d'))) E := by
  unfold popAtE; rw [W_bnd, W_chk]; exact slot_ext fun _ => congrArg _ (W_bnd.trans (W_ext fun _ _ => W_popM))
theorem W_idxE {a b : M D} {Q : D → Env → Prop} : W (idxE a b ρ) Q E = W (a ρ) (fun x ρ1 => isL x = true ∧ W (b ρ1) (fun y ρ2 => WO (indexD x y) fun z => Q z ρ2) E) E := by
  unfold idxE; rw [W_bnd]
  refine W_ext fun x ρ1 => ?_
  by_cases h : isL x = true
  · rw [if_pos h, W_bnd]; simp only [h, true_and]; exact W_ext fun _ _ => W_lft
  · rw [if_neg h, show W (stk ρ1) Q E = False from W_stk]; simp [h]
theorem W_lrgE {a : M D} {Q : D → Env → Prop} : W (lrgE a ρ) Q E = W (a ρ) (fun x ρ1 => WO (rg1D x) fun z => Q z ρ1) E := by
  unfold lrgE; rw [W_bnd]; exact W_ext fun _ _ => W_lft
theorem W_pairs_nil {Q : List (D × D) → Env → Prop} : W (pairsM [] ρ) Q E = Q [] ρ := W_ok
theorem W_pairs_cons {k v : M D} {r : List (M D × M D)} {Q : List (D × D) → Env → Prop} : W (pairsM ((k, v) :: r) ρ) Q E = W (k ρ) (fun k ρ1 => W (v ρ1) (fun v ρ2 => W (pairsM r ρ2) (fun kvs ρ3 => Q ((k, v) :: kvs) ρ3) E) E) E := by
  show W (bnd k (fun k => bnd v fun v => bnd (pairsM r) fun kvs => ret ((k, v) :: kvs)) ρ) Q E = _
  rw [W_bnd]; exact W_ext fun _ _ => W_bnd.trans (W_ext fun _ _ => W_bnd.trans (W_ext fun _ _ => W_ret))
theorem W_dispE {ps : List (M D × M D)} {Q : D → Env → Prop} : W (dispE ps ρ) Q E = W (pairsM ps ρ) (fun kvs ρ1 => (kvs.all (fun p => keyOk p.1) && decide (kvs.length ≤ 15)) = true ∧ Q (.dict (kvs.foldl (fun acc p => putD acc p.1 p.2) [])) ρ1) E := by
  unfold dispE; rw [W_bnd]
  refine W_ext fun kvs ρ1 => ?_
  by_cases h : (kvs.all (fun p => keyOk p.1) && decide (kvs.length ≤ 15)) = true
  · rw [if_pos h]; simp only [h, true_and, W_ret]
  · rw [if_neg h, show W (stk ρ1) Q E = False from W_stk]; simp [h]
/-! ### calls -/
theorem W_callE {f : FD} {dd : List D} {a : M (List D)} {Q : D → Env → Prop} : W (callE f dd a ρ) Q E = W (a ρ) (fun ds ρ1 => WR (res (f (ds ++ dd))) ρ1 Q E) E := by
  unfold callE; rw [W_bnd]
  refine W_ext fun ds ρ1 => ?_
  cases f (ds ++ dd) <;> simp only [res, W_ok, W_err, W_stk, WR_ok, WR_err, WR_stk]
theorem W_callK {f : FD} {is : List Nat} {a : M (List D)} {Q : D → Env → Prop} : W (callK f is a ρ) Q E = W (a ρ) (fun ds ρ1 => ds.length = is.length ∧ WR (res (f (permL is ds))) ρ1 Q E) E := by
  unfold callK; rw [W_bnd]
  refine W_ext fun ds ρ1 => ?_
  by_cases h : ds.length = is.length
  · rw [if_pos h]; simp only [h, true_and]
    cases f (permL is ds) <;> simp only [res, W_ok, W_err, W_stk, WR_ok, WR_err, WR_stk]
  · rw [if_neg h]; simp only [h, false_and]; exact W_stk
theorem W_callIO {f : FD} {i : Nat} {a : M (List D)} {Q : D → Env → Prop} : W (callIO f i a ρ) Q E = slot ρ[i]? fun _ => W (a ρ) (fun ds ρ1 => slot ρ1[i]? fun d0 => W (f (d0 :: ds)) (fun d ρ' => slot ρ'[0]? fun d' => Q d (ρ1.set i (some d'))) (fun _ _ _ => False)) E := by
  unfold callIO; rw [W_bnd, W_chk]
  refine slot_ext fun d => ?_
  rw [W_bnd]
  simp only [true_and]
  refine W_ext fun ds ρ1 => ?_
  cases ρ1[i]? with
  | none => simp only [W_stk, slot_none]
  | some o =>
    cases o with
    | none => simp only [W_stk, slot_snone]
    | some d0 =>
      simp only [slot_some]
      cases f (d0 :: ds) with
      | ok d ρ' =>
        simp only [W_ok]
        cases ρ'[0]? with
        | none => simp only [W_stk, slot_none]
        | some o =>
          cases o <;> simp only [W_stk, W_ok, slot_snone, slot_some]
      | err c d ρ' => simp only [W_stk, W_err]
      | stuck => simp only [W_stk]
/-- a call's body -/
theorem W_bodyD {n np : Nat} {b : Bool} {s : S} {args : List D} {Q : D → Env → Prop} (hl : args.length = np) : W (bodyD n np b s args) Q E = W (s (envD n args)) (fun f ρ1 => match f with | .rt d => Q d ρ1 | .next => b = true ∧ Q .none ρ1 | _ => False) E := by
  unfold bodyD
  rw [if_pos hl]
  cases s (envD n args) with
  | ok f ρ1 =>
    cases f with
    | next => cases b <;> simp [W_ok, W_stk]
    | _ => simp only [W_ok, W_stk]
  | err c d ρ1 => simp only [W_err]
  | stuck => simp only [W_stk]
theorem W_body {n np : Nat} {b : Bool} {s : S} {args : List D} {Q : D → Env → Prop} (hl : args.length = np) (h : W (s (envD n args)) (fun f ρ1 => match f with | .rt d => Q d ρ1 | .next => b = true ∧ Q .none ρ1 | _ => False) E) : W (bodyD n np b s args) Q E := by
  rw [W_bodyD hl]; exact h
theorem W_b0 {n : Nat} {b : Bool} {s : S} {Q : D → Env → Prop} (h : W (s ((List.replicate (n - 0) none))) (fun f ρ1 => match f with | .rt d => Q d ρ1 | .next => b = true ∧ Q .none ρ1 | _ => False) E) : W (bodyD n 0 b s []) Q E := W_body rfl h
theorem W_b1 {n : Nat} {b : Bool} {s : S} {a0 : D} {Q : D → Env → Prop} (h : W (s (some a0 :: (List.replicate (n - 1) none))) (fun f ρ1 => match f with | .rt d => Q d ρ1 | .next => b = true ∧ Q .none ρ1 | _ => False) E) : W (bodyD n 1 b s [a0]) Q E := W_body rfl h
theorem W_b2 {n : Nat} {b : Bool} {s : S} {a0 a1 : D} {Q : D → Env → Prop} (h : W (s (some a0 :: some a1 :: (List.replicate (n - 2) none))) (fun f ρ1 => match f with | .rt d => Q d ρ1 | .next => b = true ∧ Q .none ρ1 | _ => False) E) : W (bodyD n 2 b s [a0, a1]) Q E := W_body rfl h
theorem W_b3 {n : Nat} {b : Bool} {s : S} {a0 a1 a2 : D} {Q : D → Env → Prop} (h : W (s (some a0 :: some a1 :: some a2 :: (List.replicate (n - 3) none))) (fun f ρ1 => match f with | .rt d => Q d ρ1 | .next => b = true ∧ Q .none ρ1 | _ => False) E) : W (bodyD n 3 b s [a0, a1, a2]) Q E := W_body rfl h
theorem W_b4 {n : Nat} {b : Bool} {s : S} {a0 a1 a2 a3 : D} {Q : D → Env → Prop} (h : W (s (some a0 :: some a1 :: some a2 :: some a3 :: (List.replicate (n - 4) none))) (fun f ρ1 => match f with | .rt d => Q d ρ1 | .next => b = true ∧ Q .none ρ1 | _ => False) E) : W (bodyD n 4 b s [a0, a1, a2, a3]) Q E := W_body rfl h
theorem W_b5 {n : Nat} {b : Bool} {s : S} {a0 a1 a2 a3 a4 : D} {Q : D → Env → Prop} (h : W (s (some a0 :: some a1 :: some a2 :: some a3 :: some a4 :: (List.replicate (n - 5) none))) (fun f ρ1 => match f with | .rt d => Q d ρ1 | .next => b = true ∧ Q .none ρ1 | _ => False) E) : W (bodyD n 5 b s [a0, a1, a2, a3, a4]) Q E := W_body rfl h
theorem W_b6 {n : Nat} {b : Bool} {s : S} {a0 a1 a2 a3 a4 a5 : D} {Q : D → Env → Prop} (h : W (s (some a0 :: some a1 :: some a2 :: some a3 :: some a4 :: some a5 :: (List.replicate (n - 6) none))) (fun f ρ1 => match f with | .rt d => Q d ρ1 | .next => b = true ∧ Q .none ρ1 | _ => False) E) : W (bodyD n 6 b s [a0, a1, a2, a3, a4, a5]) Q E := W_body rfl h
theorem W_b7 {n : Nat} {b : Bool} {s : S} {a0 a1 a2 a3 a4 a5 a6 : D} {Q : D → Env → Prop} (h : W (s (some a0 :: some a1 :: some a2 :: some a3 :: some a4 :: some a5 :: some a6 :: (List.replicate (n - 7) none))) (fun f ρ1 => match f with | .rt d => Q d ρ1 | .next => b = true ∧ Q .none ρ1 | _ => False) E) : W (bodyD n 7 b s [a0, a1, a2, a3, a4, a5, a6]) Q E := W_body rfl h
theorem W_b8 {n : Nat} {b : Bool} {s : S} {a0 a1 a2 a3 a4 a5 a6 a7 : D} {Q : D → Env → Prop} (h : W (s (some a0 :: some a1 :: some a2 :: some a3 :: some a4 :: some a5 :: some a6 :: some a7 :: (List.replicate (n - 8) none))) (fun f ρ1 => match f with | .rt d => Q d ρ1 | .next => b = true ∧ Q .none ρ1 | _ => False) E) : W (bodyD n 8 b s [a0, a1, a2, a3, a4, a5, a6, a7]) Q E := W_body rfl h
theorem W_lamFD {n np : Nat} {g : M D} {args : List D} {Q : D → Env → Prop} (hl : args.length = np) : W (lamFD n np g args) Q E = W (g (envD n args)) Q E := by
  unfold lamFD; rw [if_pos hl]
/-- from the reckoning to the end -/
theorem res_ok {o : Out D} {v : D} (h : W o (fun d _ => d = v) (fun _ _ _ => False)) : res o = .ok v := by
  cases h with
  | ok h => exact congrArg Rz.ok h
  | err h => exact h.elim
theorem res_ex {o : Out D} {P : D → Prop} (h : W o (fun d _ => P d) (fun _ _ _ => False)) : ∃ d, res o = .ok d ∧ P d := by
  cases h with
  | ok h => exact ⟨_, rfl, h⟩
  | err h => exact h.elim
theorem res_any {o : Out D} {r : Rz} (h : W o (fun d _ => r = .ok d) (fun c d _ => r = .err c d)) : res o = r := by
  cases h with
  | ok h => exact h.symm
  | err h => exact h.symm
theorem res_err {o : Out D} {c : Str} {v : D} (h : W o (fun _ _ => False) (fun c' d _ => c' = c ∧ d = v)) : res o = .err c v := by
  cases h with
  | ok h => exact h.elim
  | err h => obtain ⟨rfl, rfl⟩ := h; rfl
theorem W_tryS {s : S} {c : Str} {is : List Nat} {i : Nat} {h : D → S} : W (tryS s c is i h ρ) Qs E = W (s ρ) Qs (fun c' d ρ1 => if c' = c then i < ρ1.length ∧ W (h d (forget [i] (forget is ρ1))) (fun f ρ2 => Qs f (forget [i] ρ2)) (fun _ _ _ => False) else False) := by
  unfold tryS
  cases e : s ρ with
  | ok f ρ1 => simp only [W_ok]
  | stuck => simp only [W_stk]
  | err c' d ρ1 =>
    simp only [W_err]
    by_cases h1 : c' = c
    · by_cases h2 : i < ρ1.length
      · rw [if_pos ⟨h1, h2⟩, if_pos h1]
        simp only [h2, true_and]
        cases h d (forget [i] (forget is ρ1)) <;> simp only [W_ok, W_err, W_stk]
      · rw [if_neg fun z => h2 z.2, if_pos h1]
        simp only [h2, false_and, W_stk]
    · rw [if_neg fun z => h1 z.1, if_neg h1]; simp only [W_stk]
/-! ### loops -/
theorem W_forS {it : M (List D)} {t : Tg} {b : S} : W (forS it t b ρ) Qs E = W (it ρ) (fun xs ρ1 => W (forL t b xs ρ1) Qs E) E := by
  unfold forS; rw [W_bnd]
theorem W_forL_nil {t : Tg} {b : S} : W (forL t b [] ρ) Qs E = Qs .next ρ := W_ok
theorem W_forL_cons {t : Tg} {b : S} {x : D} {xs : List D} : W (forL t b (x :: xs) ρ) Qs E = W (t x ρ) (fun _ ρ1 => W (b ρ1) (fun f ρ2 => match f with | .next => W (forL t b xs ρ2) Qs E | .cont => W (forL t b xs ρ2) Qs E | .brk => Qs .next ρ2 | .rt d => Qs (.rt d) ρ2) E) E := by
  show W (bnd (t x) (fun _ => bnd b fun f => match f with | .next => forL t b xs | .cont => forL t b xs | .brk => nx | .rt d => ret (.rt d)) ρ) Qs E = _
  rw [W_bnd]; refine W_ext fun _ ρ1 => W_bnd.trans (W_ext fun f ρ2 => ?_)
  cases f <;> first | rfl | exact W_ok
/-- a for by an invariant over the number of turns done -/
theorem W_for {t : Tg} {b : S} {xs : List D} (I : Nat → Env → Prop) (h0 : I 0 ρ)
    (step : ∀ k x ρ, xs[k]? = some x → I k ρ → W (t x ρ) (fun _ ρ1 => W (b ρ1) (fun f ρ2 => match f with | .next => I (k + 1) ρ2 | .cont => I (k + 1) ρ2 | .brk => Qs .next ρ2 | .rt d => Qs (.rt d) ρ2) E) E)
    (done : ∀ ρ, I xs.length ρ → Qs .next ρ) : W (forL t b xs ρ) Qs E := by
  have key : ∀ (ys : List D) (k : Nat) (ρ : Env), xs.drop k = ys → k ≤ xs.length → I k ρ → W (forL t b ys ρ) Qs E := by
    intro ys
    induction ys with
    | nil =>
      intro k ρ hd hk hI
      have : xs.length ≤ k := List.drop_eq_nil_iff.mp hd
      have : k = xs.length := by omega
      subst this
      rw [W_forL_nil]; exact done ρ hI
    | cons y ys ih =>
      intro k ρ hd hk hI
      have hx : xs[k]? = some y := by
        have := congrArg (fun l => l[0]?) hd
        simpa using this
      have hlt : k < xs.length := by
        rcases Nat.lt_or_ge k xs.length with h | h
        · exact h
        · rw [List.getElem?_eq_none h] at hx; cases hx
      have hd' : xs.drop (k + 1) = ys := by
        have := congrArg List.tail hd
        simpa using this
      rw [W_forL_cons]
      refine W_impQ (step k y ρ hx hI) fun _ ρ1 h1 => W_impQ h1 fun f ρ2 h2 => ?_
      cases f with
      | next => exact ih (k + 1) ρ2 hd' hlt h2
      | cont => exact ih (k + 1) ρ2 hd' hlt h2
      | brk => exact h2
      | rt d => exact h2
  exact key xs 0 ρ rfl (Nat.zero_le _) h0
/-- a while by an invariant and a measure -/
theorem W_whl {c : M Bool} {b : S} {n : Nat} (I : Nat → Env → Prop) (m : Nat) (h0 : I m ρ) (hm : m < n)
    (step : ∀ m ρ, I m ρ → W (c ρ) (fun x ρ1 => WI x (fun _ => W (b ρ1) (fun f ρ2 => match f with | .next => ∃ m', m' < m ∧ I m' ρ2 | .cont => ∃ m', m' < m ∧ I m' ρ2 | .brk => Qs .next ρ2 | .rt d => Qs (.rt d) ρ2) E) (fun _ => Qs .next ρ1)) E) : W (whlN c b n ρ) Qs E := by
  induction n generalizing ρ m with
  | zero => omega
  | succ n ih =>
    show W (bnd c (fun x => if x = true then bnd b fun f => match f with
      | .next => whlN c b n
      | .cont => whlN c b n
      | .brk => nx
      | .rt d => ret (.rt d)
    else nx) ρ) Qs E
    rw [W_bnd]
    refine W_impQ (step m ρ h0) fun x ρ1 h1 => ?_
    cases h1 with
    | no h1 => exact .ok h1
    | yes h1 =>
      show W (bnd b _ ρ1) Qs E
      rw [W_bnd]
      refine W_impQ h1 fun f ρ2 h2 => ?_
      cases f with
      | next => obtain ⟨m', l, h⟩ := h2; exact ih m' h (by omega)
      | cont => obtain ⟨m', l, h⟩ := h2; exact ih m' h (by omega)
      | brk => exact .ok h2
      | rt d => exact .ok h2
/-! ### comprehensions -/
/-- one turn: an element or none -/
def lcT (t : Tg) (c : M Bool) (e : M D) (x : D) : M (Option D) := bnd (t x) fun _ => bnd c fun b => if b = true then bnd e fun y => ret (some y) else ret none
theorem W_lcT {t : Tg} {c : M Bool} {e : M D} {x : D} {Q : Option D → Env → Prop} : W (lcT t c e x ρ) Q E = W (t x ρ) (fun _ ρ1 => W (c ρ1) (fun b ρ2 => WI b (fun _ => W (e ρ2) (fun y ρ3 => Q (some y) ρ3) E) (fun _ => Q none ρ2)) E) E := by
  unfold lcT; rw [W_bnd]; exact W_ext fun _ _ => W_bnd.trans (W_ext fun _ _ => WI_ite.trans (WI_ext (W_bnd.trans (W_ext fun _ _ => W_ret)) W_ret))
theorem W_noT {Q : Bool → Env → Prop} : W (noT ρ) Q E = Q true ρ := W_ok
theorem W_lc {own : List Nat} {it : M (List D)} {t : Tg} {c : M Bool} {e : M D} {Q : D → Env → Prop} (h : W (it ρ) (fun xs ρ1 => xs.length ≤ lineN ∧ ∃ I : Nat → List D → Env → Prop, I 0 [] (forget own ρ1) ∧
      (∀ k x ys ρ2, xs[k]? = some x → I k ys ρ2 → W (lcT t c e x ρ2) (fun o ρ3 => I (k + 1) (ys ++ o.toList) (forget own ρ3)) (fun _ _ _ => False)) ∧
      ∀ ys ρ2, I xs.length ys ρ2 → Q (.list ys) (restore own ρ1 ρ2)) E) : W (lcE own it t c e ρ) Q E := by
  unfold lcE; rw [W_bnd]
  refine W_impQ h fun xs ρ1 ⟨hl, I, h0, step, done⟩ => ?_
  rw [if_pos hl]
  have key : ∀ (zs : List D) (k : Nat) (ys : List D) (ρ2 : Env), xs.drop k = zs → k ≤ xs.length → I k ys ρ2 → W (lcL own t c e zs ρ2) (fun us ρ3 => I xs.length (ys ++ us) ρ3) (fun _ _ _ => False) := by
    intro zs
    induction zs with
    | nil =>
      intro k ys ρ2 hd hk hI
      have : xs.length ≤ k := List.drop_eq_nil_iff.mp hd
      have : k = xs.length := by omega
      subst this
      show W (ret [] ρ2) _ _
      rw [W_ret, List.append_nil]; exact hI
    | cons z zs ih =>
      intro k ys ρ2 hd hk hI
      have hx : xs[k]? = some z := by
        have := congrArg (fun l => l[0]?) hd
        simpa using this
      have hlt : k < xs.length := by
        rcases Nat.lt_or_ge k xs.length with h | h
        · exact h
        · rw [List.getElem?_eq_none h] at hx; cases hx
      have hd' : xs.drop (k + 1) = zs := by
        have := congrArg List.tail hd
        simpa using this
      have st := step k z ys ρ2 hx hI
      rw [W_lcT] at st
      show W (bnd (t z) (fun _ => bnd c fun b => if b = true then bnd e fun y => bnd (fgM own (lcL own t c e zs)) fun ys => ret (y :: ys) else fgM own (lcL own t c e zs)) ρ2) _ _
      rw [W_bnd]
      refine W_impQ st fun _ ρ3 h3 => ?_
      rw [W_bnd]
      refine W_impQ h3 fun b ρ4 h4 => ?_
      cases h4 with
      | yes h4 =>
        show W (bnd e _ ρ4) _ _
        rw [W_bnd]
        refine W_impQ h4 fun y ρ5 h5 => ?_
        rw [W_bnd]
        refine W_impQ (ih (k + 1) (ys ++ [y]) (forget own ρ5) hd' hlt h5) fun us ρ6 h6 => ?_
        rw [W_ret, List.append_cons]; exact h6
      | no h4 =>
        have h5 : I (k + 1) ys (forget own ρ4) := by simpa using h4
        exact ih (k + 1) ys (forget own ρ4) hd' hlt h5
  have k0 := key xs 0 [] (forget own ρ1) rfl (Nat.zero_le _) h0
  unfold rst
  unfold bnd
  cases hh : lcL own t c e xs (forget own ρ1) with
  | ok us ρ3 => rw [hh, W_ok] at k0; exact .ok (done us ρ3 k0)
  | err c d ρ3 => rw [hh, W_err] at k0; exact k0.elim
  | stuck => rw [hh, W_stk] at k0; exact k0.elim
/-- .. whose turns leave the names as they were: a map with a filter -/
theorem W_lcP {own : List Nat} {it : M (List D)} {t : Tg} {c : M Bool} {e : M D} {Q : D → Env → Prop} (h : W (it ρ) (fun xs ρ1 => xs.length ≤ lineN ∧ ∃ g : D → Option D,
      (∀ x, x ∈ xs → W (lcT t c e x (forget own ρ1)) (fun o ρ3 => o = g x ∧ forget own ρ3 = forget own ρ1) (fun _ _ _ => False)) ∧
      Q (.list (xs.filterMap g)) (restore own ρ1 (forget own ρ1))) E) : W (lcE own it t c e ρ) Q E := by
  refine W_lc (W_impQ h fun xs ρ1 ⟨hl, g, hs, hq⟩ => ⟨hl, fun k ys ρ2 => ys = (xs.take k).filterMap g ∧ ρ2 = forget own ρ1, ⟨by simp, rfl⟩, fun k x ys ρ2 hx ⟨e1, e2⟩ => ?_, fun ys ρ2 ⟨e1, e2⟩ => ?_⟩)
  · subst e2
    refine W_impQ (hs x (List.mem_of_getElem? hx)) fun o ρ3 ⟨e3, e4⟩ => ⟨?_, e4⟩
    rw [e1, e3, List.take_add_one, List.filterMap_append, hx]
    cases hg : g x <;> simp [hg]
  · subst e2
    rw [e1, List.take_length]; exact hq
/-- .. over known items, the names as they were -/
theorem W_lcQ {own : List Nat} {it : M (List D)} {t : Tg} {c : M Bool} {e : M D} {Q : D → Env → Prop} (xs : List D) (g : D → Option D) (hi : W (it ρ) (fun xs' ρ' => xs' = xs ∧ ρ' = ρ) (fun _ _ _ => False)) (hl : xs.length ≤ lineN)
    (hs : ∀ x, x ∈ xs → W (lcT t c e x (forget own ρ)) (fun o ρ3 => o = g x ∧ forget own ρ3 = forget own ρ) (fun _ _ _ => False)) (hq : Q (.list (xs.filterMap g)) (restore own ρ (forget own ρ))) : W (lcE own it t c e ρ) Q E :=
  W_lcP (W_mono hi (fun xs' ρ' ⟨e1, e2⟩ => by subst e1 e2; exact ⟨hl, g, hs, hq⟩) fun _ _ _ z => z.elim)
theorem W_lcK {own : List Nat} {it : M (List D)} {t : Tg} {c : M Bool} {e : M D} {Q : D → Env → Prop} (K : List D → Env → Prop) (I : List D → Env → Nat → List D → Env → Prop) (hi : W (it ρ) K E) (hl : ∀ xs ρ1, K xs ρ1 → xs.length ≤ lineN ∧ I xs ρ1 0 [] (forget own ρ1))
    (hs : ∀ xs ρ1, K xs ρ1 → ∀ k x ys ρ2, xs[k]? = some x → I xs ρ1 k ys ρ2 → W (lcT t c e x ρ2) (fun o ρ3 => I xs ρ1 (k + 1) (ys ++ o.toList) (forget own ρ3)) (fun _ _ _ => False))
    (hq : ∀ xs ρ1, K xs ρ1 → ∀ ys ρ2, I xs ρ1 xs.length ys ρ2 → Q (.list ys) (restore own ρ1 ρ2)) : W (lcE own it t c e ρ) Q E :=
  W_lc (W_impQ hi fun xs ρ1 hk => ⟨(hl xs ρ1 hk).1, I xs ρ1, (hl xs ρ1 hk).2, hs xs ρ1 hk, hq xs ρ1 hk⟩)
theorem restore_nil {ρ0 : Env} : restore [] ρ0 ρ = ρ := rfl
theorem restore_cons {i : Nat} {is : List Nat} {ρ0 : Env} : restore (i :: is) ρ0 ρ = restore is ρ0 (ρ.set i (ρ0.getD i none)) := rfl
end
end Dn

/-! DnX -/
set_option Elab.async false
set_option linter.all false
set_option maxRecDepth 100000
/-! Dn, part X: operators over plain data of ints. -/
namespace Dn
open PySem
theorem WO_ite {α : Type} {c : Prop} {inst : Decidable c} {a : α} {Q : α → Prop} : WO (@ite _ c inst (some a) none) Q = (c ∧ Q a) := by
  by_cases h : c
  · rw [if_pos h, WO_some]; simp [h]
  · rw [if_neg h, WO_none]; simp [h]
theorem WO_map {α β : Type} {o : Option α} {f : α → β} {Q : β → Prop} : WO (o.map f) Q = WO o fun a => Q (f a) := by
  cases o
  · exact WO_none.trans WO_none.symm
  · exact WO_some.trans (WO_some (Q := fun a => Q (f a))).symm
theorem WO_bind {α β : Type} {o : Option α} {f : α → Option β} {Q : β → Prop} : WO (o.bind f) Q = WO o fun a => WO (f a) Q := by
  cases o
  · exact WO_none.trans WO_none.symm
  · exact (WO_some (Q := fun a => WO (f a) Q)).symm
/-! ### equality -/
theorem pl_int {n : Nat} {i : Int} : pl n (.int i) = true := by cases n <;> rfl
theorem pl_bool {n : Nat} {b : Bool} : pl n (.bool b) = true := by cases n <;> rfl
theorem pl_none {n : Nat} : pl n .none = true := by cases n <;> rfl
theorem pl_list {n : Nat} {xs : List D} : pl (n + 1) (.list xs) = xs.all (pl n) := rfl
theorem pl_tuple {n : Nat} {xs : List D} : pl (n + 1) (.tuple xs) = xs.all (pl n) := rfl
theorem pl_ints {n : Nat} {ns : List Int} : (ns.map PyData.int).all (pl n) = true := by
  simp [List.all_map, pl_int]
theorem eqv_ints : ∀ {a b : List Int}, PyData.eqvAll (a.map .int) (b.map .int) = decide (a = b)
  | [], [] => rfl
  | [], _ :: _ => by simp [PyData.eqvAll]
  | _ :: _, [] => by simp [PyData.eqvAll]
  | x :: a, y :: b => by
    simp only [List.map_cons, PyData.eqvAll, PyData.eqv, eqv_ints]
    by_cases h : x = y <;> simp [h]
theorem eqD_int {i j : Int} : eqD (.int i) (.int j) = some (.bool (decide (i = j))) := by
  unfold eqD
  simp only [pl_int, Bool.and_self, if_true, PyData.eqv]
  congr 2
theorem neD_int {i j : Int} : neD (.int i) (.int j) = some (.bool (!decide (i = j))) := by
  unfold neD
  simp only [pl_int, Bool.and_self, if_true, PyData.eqv]
  congr 2
theorem eqD_bool {i j : Bool} : eqD (.bool i) (.bool j) = some (.bool (i == j)) := by
  unfold eqD
  simp only [pl_bool, Bool.and_self, if_true, PyData.eqv]
theorem neD_bool {i j : Bool} : neD (.bool i) (.bool j) = some (.bool (!(i == j))) := by
  unfold neD
  simp only [pl_bool, Bool.and_self, if_true, PyData.eqv]
theorem eqD_ls {a b : List Int} : eqD (.list (a.map .int)) (.list (b.map .int)) = some (.bool (decide (a = b))) := by
  unfold eqD
  rw [show (60 : Nat) = 59 + 1 from rfl, pl_list, pl_list, pl_ints, pl_ints]
  simp [PyData.eqv, eqv_ints]
theorem neD_ls {a b : List Int} : neD (.list (a.map .int)) (.list (b.map .int)) = some (.bool (!decide (a = b))) := by
  unfold neD
  rw [show (60 : Nat) = 59 + 1 from rfl, pl_list, pl_list, pl_ints, pl_ints]
  simp [PyData.eqv, eqv_ints]
theorem eqD_ts {a b : List Int} : eqD (.tuple (a.map .int)) (.tuple (b.map .int)) = some (.bool (decide (a = b))) := by
  unfold eqD
  rw [show (60 : Nat) = 59 + 1 from rfl, pl_tuple, pl_tuple, pl_ints, pl_ints]
  simp [PyData.eqv, eqv_ints]
theorem neD_ts {a b : List Int} : neD (.tuple (a.map .int)) (.tuple (b.map .int)) = some (.bool (!decide (a = b))) := by
  unfold neD
  rw [show (60 : Nat) = 59 + 1 from rfl, pl_tuple, pl_tuple, pl_ints, pl_ints]
  simp [PyData.eqv, eqv_ints]
mutual
theorem eqv_self : ∀ {n : Nat} {d : D}, pl n d = true → PyData.eqv d d = true
  | _, .none, _ => by simp [PyData.eqv]
  | _, .bool _, _ => by simp [PyData.eqv]
  | _, .int _, _ => by simp [PyData.eqv]
  | _, .str _, _ => by simp [PyData.eqv]
  | 0, .list _, h => by simp [pl] at h
  | 0, .tuple _, h => by simp [pl] at h
  | n + 1, .list xs, h => by rw [pl_list] at h; simp only [PyData.eqv]; exact eqvAll_self h
  | n + 1, .tuple xs, h => by rw [pl_tuple] at h; simp only [PyData.eqv]; exact eqvAll_self h
  | 0, .dict _, h => by simp [pl] at h
  | _ + 1, .dict _, h => by simp [pl] at h
theorem eqvAll_self : ∀ {n : Nat} {xs : List D}, xs.all (pl n) = true → PyData.eqvAll xs xs = true
  | _, [], _ => by simp [PyData.eqvAll]
  | n, x :: xs, h => by
    rw [List.all_cons, Bool.and_eq_true] at h
    simp only [PyData.eqvAll, eqv_self h.1, eqvAll_self h.2, Bool.and_self]
end
theorem eqD_self {d : D} (h : pl 60 d = true) : eqD d d = some (.bool true) := by
  unfold eqD; rw [h]; simp [eqv_self h]
theorem neD_self {d : D} (h : pl 60 d = true) : neD d d = some (.bool false) := by
  unfold neD; rw [h]; simp [eqv_self h]
theorem eqD_str {x y : Str} (hx : PyData.strOk x = true) (hy : PyData.strOk y = true) : eqD (.str x) (.str y) = some (.bool (decide (x = y))) := by
  unfold eqD
  rw [show pl 60 (.str x) = true from hx, show pl 60 (.str y) = true from hy]
  simp only [Bool.and_self, if_true, PyData.eqv]
  congr 2
theorem neD_str {x y : Str} (hx : PyData.strOk x = true) (hy : PyData.strOk y = true) : neD (.str x) (.str y) = some (.bool (!decide (x = y))) := by
  unfold neD
  rw [show pl 60 (.str x) = true from hx, show pl 60 (.str y) = true from hy]
  simp only [Bool.and_self, if_true, PyData.eqv]
  congr 2
/-! ### operators by constructors -/
section
variable {i j : Int} {b c : Bool} {x y : Str} {xs ys : List D} {d : D} {kvs : List (D × D)}
theorem addU_int : addU (.int i) (.int j) = some (.int (i + j)) := rfl
theorem addU_str : addU (.str x) (.str y) = if x.length + y.length ≤ 16777216 then some (.str (x ++ y)) else none := rfl
theorem addU_tup : addU (.tuple xs) (.tuple ys) = if xs.length + ys.length ≤ 16777216 then some (.tuple (xs ++ ys)) else none := rfl
theorem addU_lst : addU (.list xs) (.list ys) = if xs.length + ys.length ≤ 16777216 then some (.list (xs ++ ys)) else none := rfl
theorem catL_lst : catL (.list xs) (.list ys) = if xs.length + ys.length ≤ 16777216 then some (.list (xs ++ ys)) else none := rfl
theorem addI_int : onI addD (.int i) (.int j) = some (.int (i + j)) := rfl
theorem subI_int : onI subD (.int i) (.int j) = some (.int (i - j)) := rfl
theorem mulI_int : onI mulD (.int i) (.int j) = if wideOk i j then some (.int (i * j)) else none := rfl
theorem mulU_int : mulU (.int i) (.int j) = if wideOk i j then some (.int (i * j)) else none := rfl
theorem mulU_tup : mulU (.tuple xs) (.int j) = if xs ≠ [] ∧ 2 ≤ j ∧ j ≤ 1000 ∧ xs.length ≤ 1000 then some (.tuple (List.replicate j.toNat xs).flatten) else none := rfl
theorem repL_lst : repL (.list xs) (.int j) = if -(2 ^ 63) ≤ j ∧ j < 2 ^ 63 ∧ xs.length * j.toNat ≤ 16777216 then some (.list (List.replicate j.toNat xs).flatten) else none := rfl
theorem fdivI_int : onI fdivD (.int i) (.int j) = if divOk j then some (.int (i.fdiv j)) else none := rfl
theorem modI_int : onI modD (.int i) (.int j) = if j = 0 then none else some (.int (i.fmod j)) := rfl
theorem powI_int : onI powD (.int i) (.int j) = if 0 ≤ j ∧ j ≤ 1000000 ∧ i.natAbs < 2 ^ 64 then some (.int (i ^ j.toNat)) else none := rfl
theorem negD_int : negD (.int i) = some (.int (-i)) := rfl
theorem ltI_int : onI ltD (.int i) (.int j) = some (.bool (decide (i < j))) := rfl
theorem leI_int : onI leD (.int i) (.int j) = some (.bool (decide (i ≤ j))) := rfl
theorem gtI_int : onI gtD (.int i) (.int j) = some (.bool (decide (j < i))) := rfl
theorem geI_int : onI geD (.int i) (.int j) = some (.bool (decide (j ≤ i))) := rfl
theorem isN_none : isNoneD2 .none .none = some (.bool true) := rfl
theorem isN_bool : isNoneD2 (.bool b) .none = some (.bool false) := rfl
theorem isN_int : isNoneD2 (.int i) .none = some (.bool false) := rfl
theorem isN_str : isNoneD2 (.str x) .none = some (.bool false) := rfl
theorem isN_lst : isNoneD2 (.list xs) .none = some (.bool false) := rfl
theorem isN_tup : isNoneD2 (.tuple xs) .none = some (.bool false) := rfl
theorem notN_none : notNoneD2 .none .none = some (.bool false) := rfl
theorem notN_bool : notNoneD2 (.bool b) .none = some (.bool true) := rfl
theorem notN_int : notNoneD2 (.int i) .none = some (.bool true) := rfl
theorem notN_str : notNoneD2 (.str x) .none = some (.bool true) := rfl
theorem notN_lst : notNoneD2 (.list xs) .none = some (.bool true) := rfl
theorem notN_tup : notNoneD2 (.tuple xs) .none = some (.bool true) := rfl
theorem truth_none : truthD .none = some false := rfl
theorem truth_bool : truthD (.bool b) = some b := rfl
theorem truth_int : truthD (.int i) = some (i != 0) := rfl
theorem truth_lst : truthD (.list xs) = some (!xs.isEmpty) := rfl
theorem truth_tup : truthD (.tuple xs) = some (!xs.isEmpty) := rfl
theorem boolOf_bool : boolOf (.bool b) = some b := rfl
theorem intOf_int : intOf (.int i) = some i := rfl
theorem tupleD_lst : tupleD (.list xs) = some (.tuple xs) := rfl
theorem tupleD_tup : tupleD (.tuple xs) = some (.tuple xs) := rfl
theorem listD_lst : listD (.list xs) = some (.list xs) := rfl
theorem listD_tup : listD (.tuple xs) = some (.list xs) := rfl
theorem itemsD_lst : itemsD (.list xs) = some xs := rfl
theorem itemsD_tup : itemsD (.tuple xs) = some xs := rfl
theorem slU_tup {l h : Option Int} : slU (.tuple xs) l h = some (.tuple (cutL xs l h)) := rfl
theorem slU_lst {l h : Option Int} : slU (.list xs) l h = some (.list (cutL xs l h)) := rfl
theorem itemU_tup : itemU (.tuple xs) (.int i) = L2.atI xs i := rfl
theorem itemU_lst : itemU (.list xs) (.int i) = L2.atI xs i := rfl
theorem itemU_dict : itemU (.dict kvs) d = dgetD (.dict kvs) d := rfl
theorem itemD_tup : itemD (.tuple xs) (.int i) = L2.atI xs i := rfl
theorem itemD_lst : itemD (.list xs) (.int i) = L2.atI xs i := rfl
theorem lenD_lst : lenD (.list xs) = some (.int xs.length) := rfl
theorem lenD_tup : lenD (.tuple xs) = some (.int xs.length) := rfl
theorem isL_lst : isL (.list xs) = true := rfl
theorem appD_lst : appD d (.list xs) = if xs.length < 16777216 then some (.list (xs ++ [d])) else none := rfl
theorem setD_lst : setD (.int i) d (.list xs) = (L2.ixN xs.length i).map fun j => .list (xs.set j d) := rfl
theorem revU_tup : revU (.tuple xs) = some (.tuple xs.reverse) := rfl
theorem rg1D_int : rg1D (.int j) = if decide (0 ≤ j) && decide (j ≤ 16777216) then some (.list (rngL 0 j.toNat)) else none := rfl
theorem absD_int : absD (.int i) = some (.int (if i < 0 then -i else i)) := rfl
theorem repr1_one : repr1 [d] = reprD d := rfl
theorem enumU_tup : enumUD [.tuple xs] = some (numL 0 xs) := rfl
theorem enumU_lst : enumUD [.list xs] = some (numL 0 xs) := rfl
theorem isi_none {T : String} : isiD T .none = some (.bool ("NoneType" == T || ("NoneType" == "bool" && T == "int"))) := rfl
theorem isi_bool {T : String} : isiD T (.bool b) = some (.bool ("bool" == T || ("bool" == "bool" && T == "int"))) := rfl
theorem isi_int {T : String} : isiD T (.int i) = some (.bool ("int" == T || ("int" == "bool" && T == "int"))) := rfl
theorem isi_str {T : String} : isiD T (.str x) = some (.bool ("str" == T || ("str" == "bool" && T == "int"))) := rfl
theorem isi_lst {T : String} : isiD T (.list xs) = some (.bool ("list" == T || ("list" == "bool" && T == "int"))) := rfl
theorem isi_tup {T : String} : isiD T (.tuple xs) = some (.bool ("tuple" == T || ("tuple" == "bool" && T == "int"))) := rfl
theorem permL_nil : permL [] ([] : List D) = [] := rfl
end
/-! ### lists of ints -/
theorem intsOf_ls : ∀ {ns : List Int}, intsOf (ns.map .int) = some ns
  | [] => rfl
  | n :: ns => by simp [intsOf, intsOf_ls]
theorem sumD_ls {ns : List Int} : sumD (.list (ns.map .int)) = some (.int ns.sum) := by simp [sumD, intsOf_ls]
theorem minD_ls {ns : List Int} : minD (.list (ns.map .int)) = (minL ns).map .int := by simp [minD, intsOf_ls]
theorem maxD_ls {ns : List Int} : maxD (.list (ns.map .int)) = (maxL ns).map .int := by simp [maxD, intsOf_ls]
theorem sortedD_ls {ns : List Int} : sortedD (.list (ns.map .int)) = some (.list ((sortI ns).map .int)) := by simp [sortedD, intsOf_ls]
theorem boolsOf_map : ∀ {bs : List Bool}, boolsOf (bs.map .bool) = some bs
  | [] => rfl
  | n :: ns => by simp [boolsOf, boolsOf_map]
theorem ixN_nn {n : Nat} {i : Int} (h0 : 0 ≤ i) (h1 : i < n) : L2.ixN n i = some i.toNat := by
  unfold L2.ixN; rw [if_pos h0, if_pos h1]
theorem ixN_nat {n i : Nat} (h1 : i < n) : L2.ixN n (i : Int) = some i := by
  rw [ixN_nn (by omega) (by omega)]; rfl
theorem ixN_neg {n : Nat} {i : Int} (h0 : i < 0) (h1 : -(n : Int) ≤ i) : L2.ixN n i = some (i + n).toNat := by
  unfold L2.ixN; rw [if_neg (by omega), if_pos h1]
theorem atI_nn {α : Type} {xs : List α} {i : Int} (h0 : 0 ≤ i) (h1 : i < xs.length) : L2.atI xs i = xs[i.toNat]? := by
  unfold L2.atI; rw [ixN_nn h0 h1]; rfl
theorem atI_nat {α : Type} {xs : List α} {i : Nat} (h1 : i < xs.length) : L2.atI xs (i : Int) = xs[i]? := by
  unfold L2.atI; rw [ixN_nat h1]; rfl
theorem atI_neg {α : Type} {xs : List α} {i : Int} (h0 : i < 0) (h1 : -(xs.length : Int) ≤ i) : L2.atI xs i = xs[(i + xs.length).toNat]? := by
  unfold L2.atI; rw [ixN_neg h0 h1]; rfl
/-- an item of ints at a place -/
theorem atI_ints {ns : List Int} {i : Int} (h0 : 0 ≤ i) (h1 : i < ns.length) : L2.atI (ns.map PyData.int) i = some (.int (ns.getD i.toNat 0)) := by
  rw [atI_nn h0 (by rw [List.length_map]; exact h1), List.getElem?_map, List.getD_eq_getElem?_getD, List.getElem?_eq_getElem (by omega)]; rfl
theorem atI_intsN {ns : List Int} {i : Int} (h0 : i < 0) (h1 : -(ns.length : Int) ≤ i) : L2.atI (ns.map PyData.int) i = some (.int (ns.getD (i + ns.length).toNat 0)) := by
  rw [atI_neg h0 (by rw [List.length_map]; exact h1), List.getElem?_map, List.getD_eq_getElem?_getD, List.length_map, List.getElem?_eq_getElem (by omega)]; rfl
theorem set_ints {ns : List Int} {i : Nat} {x : Int} : (ns.map PyData.int).set i (.int x) = (ns.set i x).map .int := by
  rw [List.map_set]
/-! ### slices -/
theorem cut_to {xs : List D} {k : Int} (h0 : 0 ≤ k) : cutL xs none (some k) = xs.take k.toNat := by
  unfold cutL HT.sIx
  simp only [List.drop_zero, Nat.sub_zero, if_neg (show ¬ k < 0 by omega)]
  rcases Nat.le_total k.toNat xs.length with h | h
  · rw [Nat.min_eq_left h]
  · rw [Nat.min_eq_right h, List.take_length, List.take_of_length_le h]
theorem cut_from {xs : List D} {k : Int} (h0 : 0 ≤ k) : cutL xs (some k) none = xs.drop k.toNat := by
  unfold cutL HT.sIx
  simp only [if_neg (show ¬ k < 0 by omega)]
  rcases Nat.le_total k.toNat xs.length with h | h
  · rw [Nat.min_eq_left h, List.take_of_length_le (by simp)]
  · rw [Nat.min_eq_right h, List.drop_length, List.drop_eq_nil_of_le h]; simp
theorem cut_all {xs : List D} : cutL xs none none = xs := by
  unfold cutL HT.sIx; simp
theorem cut_mid {xs : List D} {i j : Int} (h0 : 0 ≤ i) (h1 : i ≤ j) (h2 : j ≤ xs.length) : cutL xs (some i) (some j) = (xs.drop i.toNat).take (j.toNat - i.toNat) := by
  unfold cutL HT.sIx
  simp only [if_neg (show ¬ i < 0 by omega), if_neg (show ¬ j < 0 by omega)]
  rw [Nat.min_eq_left (by omega), Nat.min_eq_left (by omega)]
/-! ### ranges -/
theorem rng1_ok {j : Int} (h : j < 4611686018427387904) (h0 : 0 ≤ j) : rng1D [.int j] = some (rngL 0 j.toNat) := by
  unfold rng1D
  simp only []
  rw [if_pos (by unfold rngOk; simp; omega)]
theorem rng2_ok {i j : Int} (h : j < 4611686018427387904) (h0 : -4611686018427387904 ≤ i) (h1 : i < 4611686018427387904) (h2 : -4611686018427387904 ≤ j) : rng2D [.int i, .int j] = some (rngL i (j - i).toNat) := by
  unfold rng2D
  simp only []
  rw [if_pos (by unfold rngOk; simp; omega)]
theorem rngL_n {lo : Int} {n : Nat} : (rngL lo n).length = n := by unfold rngL; simp
theorem rngL_at {lo : Int} {n k : Nat} {x : D} (h : (rngL lo n)[k]? = some x) : k < n ∧ x = .int (lo + k) := by
  unfold rngL at h
  rw [List.getElem?_map] at h
  rcases Nat.lt_or_ge k n with c | c
  · rw [List.getElem?_range (by simpa using c)] at h
    exact ⟨c, by simpa using h.symm⟩
  · rw [List.getElem?_eq_none (by simpa using c)] at h; cases h
theorem rngL_mem {lo : Int} {n : Nat} {x : D} (h : x ∈ rngL lo n) : ∃ k : Nat, k < n ∧ x = .int (lo + k) := by
  obtain ⟨k, hk⟩ := List.getElem?_of_mem h
  exact ⟨k, rngL_at hk⟩
theorem rngL_filterMap {β : Type} {lo : Int} {n : Nat} {g : D → Option β} : (rngL lo n).filterMap g = (List.range n).filterMap fun (i : Nat) => g (.int (lo + (i : Int))) := by
  unfold rngL; rw [List.filterMap_map]; rfl
theorem numL_n : ∀ (xs : List D) (k : Nat), (numL k xs).length = xs.length
  | [], _ => rfl
  | _ :: xs, k => congrArg (· + 1) (numL_n xs (k + 1))
theorem numL_get : ∀ {k : Nat} {xs : List D} {i : Nat}, (numL k xs)[i]? = xs[i]?.map fun x => .tuple [.int ((k + i : Nat) : Int), x]
  | _, [], _ => by simp [numL]
  | k, x :: xs, 0 => by simp [numL]
  | k, x :: xs, i + 1 => by
    simp only [numL, List.getElem?_cons_succ]
    rw [numL_get]
    congr 1; funext y
    rw [show k + 1 + i = k + (i + 1) by omega]
theorem wide_l {i j : Int} (h : i.natAbs < 18446744073709551616) : wideOk i j = true := by
  unfold wideOk; rw [decide_eq_true (show i.natAbs < 2 ^ 64 by omega)]; rfl
theorem wide_r {i j : Int} (h : j.natAbs < 18446744073709551616) : wideOk i j = true := by
  unfold wideOk; rw [decide_eq_true (show j.natAbs < 2 ^ 64 by omega)]; simp
theorem div_ok {j : Int} (h0 : j ≠ 0) (h : j.natAbs < 1073741824) : divOk j = true := by
  unfold divOk; rw [decide_eq_true (show j ≠ 0 ∧ j.natAbs < 1073741824 from ⟨h0, h⟩)]; rfl
/-! ### the law's digits -/
def St (l c t : Int) : D := .dict [(.str "left", .int l), (.str "cell", .int c), (.str "turns", .int t)]
theorem St_left {l c t : Int} : dgetD (St l c t) (.str "left") = some (.int l) := by rfl
theorem St_cell {l c t : Int} : dgetD (St l c t) (.str "cell") = some (.int c) := by rfl
theorem St_turns {l c t : Int} : dgetD (St l c t) (.str "turns") = some (.int t) := by rfl
theorem St_setL {l c t x : Int} : dputD (.str "left") (.int x) (St l c t) = some (St x c t) := by rfl
theorem St_setT {l c t x : Int} : dputD (.str "turns") (.int x) (St l c t) = some (St l c x) := by rfl
theorem St_isKD {l c t : Int} : isKD (St l c t) = true := by rfl
/-- so many digits may be drawn yet -/
def GS (n : Nat) (t : Int) : Prop := 0 ≤ t ∧ t + 4 * n ≤ 1099511627776
theorem GS.less {n m : Nat} {t : Int} (h : GS n t) (l : m ≤ n) : GS m t := ⟨h.1, by have := h.2; omega⟩
end Dn

/-! DnY -/
set_option Elab.async false
set_option linter.all false
set_option maxRecDepth 100000
/-! Dn, part Y: repr. -/
namespace Dn
open PySem
theorem strOk_app {x y : Str} (hx : PyData.strOk x = true) (hy : PyData.strOk y = true) : PyData.strOk (x ++ y) = true := by
  show (x.cps ++ y.cps).all (· < 0x110000) = true
  rw [Array.all_append]
  exact Bool.and_eq_true_iff.mpr ⟨hx, hy⟩
theorem strOk_of (s : String) : PyData.strOk (Str.ofString s) = true := by
  rw [Str.ofString_eq_toList]
  unfold PyData.strOk
  simp only [List.all_toArray, List.all_map, List.all_eq_true]
  intro c _
  have h := c.valid
  simp only [Function.comp]
  apply decide_eq_true
  show c.val.toNat < 0x110000
  rcases h with h | h
  · have : c.val.toNat < 0xd800 := h
    omega
  · exact h.2
theorem len_app {x y : Str} : (x ++ y).length = x.length + y.length := strLen_append x y
/-- what repr may be asked of -/
structure Rp (d : D) (n : Nat) : Prop where
  pl : pl 59 d = true
  sh : d.showable = true
  len : d.shown.length ≤ n
  ok : PyData.strOk d.shown = true
theorem Rp.none : Rp .none 4 := ⟨by decide, by decide, by decide +kernel, by decide +kernel⟩
theorem Rp.bool (b : Bool) : Rp (.bool b) 5 := by
  cases b
  · exact ⟨by decide, by decide, by decide +kernel, by decide +kernel⟩
  · exact ⟨by decide, by decide, by decide +kernel, by decide +kernel⟩
theorem Rp.int {i : Int} (h : i.natAbs.log2 < 1920) : Rp (.int i) 1921 := by
  refine ⟨pl_int, ?_, ?_, ?_⟩
  · simp only [PyData.showable]; exact decide_eq_true h
  · simp only [PyData.shown]; exact PyProof.Rows.int_text_len_1921 h
  · simp only [PyData.shown]; exact strOk_of _
theorem log2_lt {n k : Nat} (hk : 0 < k) (h : n < 2 ^ k) : n.log2 < k := by
  rcases Nat.eq_zero_or_pos n with e | e
  · subst e; simpa using hk
  · exact (Nat.log2_lt (by omega)).mpr h
theorem Rp.small {i : Int} (h : i.natAbs < 18446744073709551616) : Rp (.int i) 1921 := Rp.int (Nat.lt_trans (log2_lt (k := 64) (by decide) h) (by decide))
theorem shownAll_map : ∀ xs : List D, PyData.shownAll xs = xs.map PyData.shown
  | [] => by simp [PyData.shownAll]
  | x :: xs => by simp [PyData.shownAll, shownAll_map xs]
theorem showableAll_all : ∀ xs : List D, PyData.showableAll xs = xs.all PyData.showable
  | [] => by simp [PyData.showableAll]
  | x :: xs => by simp [PyData.showableAll, showableAll_all xs]
theorem join_ok : ∀ (ts : List Str) (m : Nat), (∀ t ∈ ts, PyData.strOk t = true ∧ t.length ≤ m) → PyData.strOk (Str.join ", " ts) = true ∧ (Str.join ", " ts).length ≤ (m + 2) * ts.length
  | [], m, _ => ⟨by decide +kernel, by show (0 : Nat) ≤ _; omega⟩
  | [x], m, h => by
    have := h x (by simp)
    refine ⟨this.1, ?_⟩
    show x.length ≤ (m + 2) * 1
    omega
  | x :: y :: r, m, h => by
    have h1 := h x (by simp)
    have ih := join_ok (y :: r) m (fun t ht => h t (List.mem_cons_of_mem _ ht))
    show PyData.strOk (x ++ ", " ++ Str.join ", " (y :: r)) = true ∧ (x ++ ", " ++ Str.join ", " (y :: r)).length ≤ _
    refine ⟨strOk_app (strOk_app h1.1 (strOk_of _)) ih.1, ?_⟩
    have e2 : ((", " : String) : Str).length = 2 := rfl
    rw [len_app, len_app, e2]
    have := ih.2
    simp only [List.length_cons] at this ⊢
    rw [Nat.mul_add (m + 2) (r.length + 1) 1]
    omega
theorem Rp.tup {xs : List D} {m : Nat} (hp : xs.all (Dn.pl 58) = true) (h : ∀ x ∈ xs, Rp x m) : Rp (PyData.tuple xs) ((m + 2) * xs.length + 3) := by
  have j := join_ok (PyData.shownAll xs) m (fun t ht => by
    rw [shownAll_map] at ht
    obtain ⟨x, hx, rfl⟩ := List.mem_map.mp ht
    exact ⟨(h x hx).ok, (h x hx).len⟩)
  refine ⟨hp, ?_, ?_, ?_⟩
  · simp only [PyData.showable, showableAll_all, List.all_eq_true]
    exact fun x hx => (h x hx).sh
  · simp only [PyData.shown, tupleText]
    rw [len_app, len_app]
    have e1 : ((("(" : String) : Str)).length = 1 := rfl
    have e3 : (((if (PyData.shownAll xs).length == 1 then ",)" else ")" : String) : Str)).length ≤ 2 := by split <;> decide +kernel
    have := j.2
    rw [shownAll_map, List.length_map, ← shownAll_map] at this
    omega
  · simp only [PyData.shown, tupleText]
    exact strOk_app (strOk_app (strOk_of _) j.1) (strOk_of _)
theorem textFrom_ok : ∀ (ts : List Str) (k m : Nat) (acc : Str), PyData.strOk acc = true → (∀ t ∈ ts, PyData.strOk t = true ∧ t.length ≤ m) → PyData.strOk (textFrom k acc ts) = true ∧ (textFrom k acc ts).length ≤ acc.length + (m + 2) * ts.length
  | [], k, m, acc, ha, _ => ⟨ha, by show acc.length ≤ _; omega⟩
  | t :: r, k, m, acc, ha, h => by
    have h1 := h t (by simp)
    have ih := textFrom_ok r (k + 1) m (acc ++ (if k > 0 then ", " else "" : String) ++ t) (strOk_app (strOk_app ha (strOk_of _)) h1.1) (fun u hu => h u (by simp [hu]))
    refine ⟨ih.1, Nat.le_trans ih.2 ?_⟩
    rw [len_app, len_app]
    have e : (((if k > 0 then ", " else "" : String) : Str)).length ≤ 2 := by split <;> decide +kernel
    rw [List.length_cons, Nat.mul_add]
    omega
theorem Rp.lst {xs : List D} {m : Nat} (hp : xs.all (Dn.pl 58) = true) (h : ∀ x ∈ xs, Rp x m) : Rp (PyData.list xs) ((m + 2) * xs.length + 2) := by
  have j := textFrom_ok (PyData.shownAll xs) 0 m "[" (strOk_of _) (fun t ht => by
    rw [shownAll_map] at ht
    obtain ⟨x, hx, rfl⟩ := List.mem_map.mp ht
    exact ⟨(h x hx).ok, (h x hx).len⟩)
  refine ⟨hp, ?_, ?_, ?_⟩
  · simp only [PyData.showable, showableAll_all, List.all_eq_true]
    exact fun x hx => (h x hx).sh
  · simp only [PyData.shown, listText]
    rw [len_app]
    have e1 : ((("]" : String) : Str)).length = 1 := rfl
    have e2 : ((("[" : String) : Str)).length = 1 := rfl
    have := j.2
    rw [e2, shownAll_map, List.length_map, ← shownAll_map] at this
    omega
  · simp only [PyData.shown, listText]
    exact strOk_app j.1 (strOk_of _)
theorem Rp.ints {ns : List Int} (h : ∀ x ∈ ns, x.natAbs.log2 < 1920) : Rp (.tuple (ns.map .int)) (1923 * ns.length + 3) := by
  have := Rp.tup (xs := ns.map .int) (m := 1921) pl_ints (fun x hx => by
    obtain ⟨i, hi, rfl⟩ := List.mem_map.mp hx
    exact Rp.int (h i hi))
  rwa [List.length_map] at this
theorem pl60_of {d : D} (h : pl 59 d = true) : pl 60 d = true := by
  have key : ∀ (n : Nat) (d : D), pl n d = true → pl (n + 1) d = true := fun n => by
    induction n with
    | zero =>
      intro d h
      cases d <;> first | exact h | (simp [pl] at h)
    | succ n ih =>
      intro d h
      cases d with
      | list xs =>
        rw [pl_list, List.all_eq_true] at h ⊢
        exact fun x hx => ih x (h x hx)
      | tuple xs =>
        rw [pl_tuple, List.all_eq_true] at h ⊢
        exact fun x hx => ih x (h x hx)
      | dict _ => simp [pl] at h
      | _ => exact h
  exact key 59 d h
/-- repr of it -/
theorem Rp.repr {d : D} {n : Nat} (h : Rp d n) (hn : n ≤ 16777216) : reprD d = some (.str d.shown) := by
  unfold reprD
  have := h.len
  rw [pl60_of h.pl, h.sh, decide_eq_true (show d.shown.length ≤ lineN by unfold lineN; omega)]
  rfl
theorem Rp.ne {d : D} {n : Nat} (h : Rp d n) : neD (.str d.shown) (.str d.shown) = some (.bool false) := neD_self h.ok
theorem Rp.eq {d : D} {n : Nat} (h : Rp d n) : eqD (.str d.shown) (.str d.shown) = some (.bool true) := eqD_self h.ok
end Dn

/-! K60D -/
set_option Elab.async false
set_option linter.all false
set_option maxRecDepth 100000
namespace K60
open PySem Dn
abbrev D := PyData
abbrev S := Dn.S
def FU : Nat := 4611686018427387904
def b__law_draw : S :=
  sq (rtn (dispE [(lit (.str "left"), ifE (testB (geE (var 0) (powI (lit (.int 10)) (lit (.int 18))))) (var 0) (lit (.int 0))), (lit (.str "cell"), var 0), (lit (.str "turns"), bin mulU (lit (.int 1000)) (var 1))])) stk
def f__law_draw : FD := bodyD 2 2 false b__law_draw
def b_is_whole : S :=
  sq (rtn (andV (un (isiD "int") (var 0)) (andV (notV (un (isiD "bool") (var 0))) (chn (onI leD) (onI leD) (var 1) (var 0) (var 2))))) stk
def f_is_whole : FD := bodyD 3 3 false b_is_whole
def b_wrong_numbers : S :=
  sq (ifS (orT (notT (test (un (isiD "tuple") (var 0)))) (notT (testB (chn (onI leD) (onI leD) (var 1) (un lenD (var 0)) (lit (.int 24)))))) (sq (rtn (lstE (consA (lit .none) (nilA)))) stk) (fgt [] nx))
  (sq (rtn (lcE [2, 3] (itA enumUD (consA (var 0) (nilA))) (tgT [tgN 2, tgN 3]) (notT (test (callE f_is_whole [] (consA (var 3) (consA (subI (lit (.int 0)) (lit (.int 1000))) (consA (lit (.int 1000)) (nilA))))))) (var 2))) stk)
def f_wrong_numbers : FD := bodyD 4 2 false b_wrong_numbers
def b_need_numbers : S :=
  sq (asg 2 (callE f_wrong_numbers [] (consA (var 0) (consA (var 1) (nilA)))))
  (sq (ifS (testB (neE (var 2) (lstE (nilA)))) (sq (rai "BadRow" (bin itemU (var 2) (lit (.int 0)))) stk) (fgt [] nx))
  (fgt [] nx))
def f_need_numbers : FD := bodyD 3 2 true b_need_numbers
def b_own_line : S :=
  sq (asg 3 (lstE (consA (lit (.int 0)) (consA (lit (.int 1)) (nilA)))))
  (sq (forS (itA rng2D (consA (lit (.int 1)) (consA (var 2) (nilA)))) (tgN 4) (sq (appS 3 (subI (bin mulU (bin itemU (var 0) (modI (bin addU (var 1) (var 4)) (un lenD (var 0)))) (bin itemD (var 3) (un negD (lit (.int 1))))) (bin itemD (var 3) (un negD (lit (.int 2))))))
  (fgt [] nx)))
  (sq (rtn (sliU (var 3) (noPart) (part (bin addU (var 2) (lit (.int 1)))))) stk))
def f_own_line : FD := bodyD 5 3 false b_own_line
def b_own_entry : S :=
  sq (rtn (bin itemU (callE f_own_line [] (consA (var 0) (consA (var 1) (consA (subI (var 2) (var 1)) (nilA))))) (un negD (lit (.int 1))))) stk
def f_own_entry : FD := bodyD 3 3 false b_own_entry
def b_own_step : S :=
  sq (asg 3 (un listD (var 1)))
  (sq (Dn.augS 3 (onI subD) (subI (var 2) (lit (.int 1))) (lit (.int 1)))
  (sq (Dn.augS 3 (onI subD) (modI (bin addU (var 2) (lit (.int 1))) (un lenD (var 3))) (lit (.int 1)))
  (sq (rtn (tupE (consA (bin addU (sliU (var 0) (noPart) (part (var 2))) (sliU (var 0) (part (bin addU (var 2) (lit (.int 1)))) (noPart))) (consA (bin addU (sliU (var 3) (noPart) (part (var 2))) (sliU (var 3) (part (bin addU (var 2) (lit (.int 1)))) (noPart))) (nilA))))) stk)))
def f_own_step : FD := bodyD 4 3 false b_own_step
def b_check_endless : S :=
  sq (drp (callE f_need_numbers [] (consA (var 0) (consA (lit (.int 1)) (nilA)))))
  (sq (ifS (orT (notT (test (un (isiD "tuple") (var 1)))) (orT (notT (testB (chn (onI leD) (onI leD) (lit (.int 2)) (un lenD (var 1)) (lit (.int 3))))) (notT (test (un (isiD "str") (bin itemU (var 1) (lit (.int 0)))))))) (sq (rai "BadPaper" (lit .none)) stk) (fgt [] nx))
  (sq (ifS (testB (bin notInD (tupE (consA (bin itemU (var 1) (lit (.int 0))) (consA (un lenD (var 1)) (nilA)))) (tupE (consA (tupE (consA (lit (.str "endless")) (consA (lit (.int 2)) (nilA)))) (consA (tupE (consA (lit (.str "ends")) (consA (lit (.int 3)) (nilA)))) (nilA)))))) (sq (rai "BadPaper" (lit .none)) stk) (fgt [] nx))
  (sq (ifS (testB (eqE (bin itemU (var 1) (lit (.int 0))) (lit (.str "ends")))) (sq (asg 2 (un lenD (var 0)))
  (sq (ifS (orT (notT (test (callE f_is_whole [] (consA (bin itemU (var 1) (lit (.int 1))) (consA (lit (.int 0)) (consA (subI (var 2) (lit (.int 1))) (nilA))))))) (notT (test (callE f_is_whole [] (consA (bin itemU (var 1) (lit (.int 2))) (consA (bin addU (bin itemU (var 1) (lit (.int 1))) (lit (.int 2))) (consA (bin addU (bin itemU (var 1) (lit (.int 1))) (bin mulU (lit (.int 3)) (var 2))) (nilA)))))))) (sq (rai "BadPaper" (lit (.str "mark"))) stk) (fgt [] nx))
  (sq (ifS (testB (gtE (callE f_own_entry [] (consA (var 0) (consA (bin itemU (var 1) (lit (.int 1))) (consA (bin itemU (var 1) (lit (.int 2))) (nilA))))) (lit (.int 0)))) (sq (rai "BadPaper" (lit (.str "entry"))) stk) (fgt [] nx))
  (sq (rtn (lit (.str "ends"))) stk)))) (fgt [] nx))
  (sq (ifS (notT (test (un (isiD "tuple") (bin itemU (var 1) (lit (.int 1)))))) (sq (rai "BadPaper" (lit (.str "places"))) stk) (fgt [] nx))
  (sq (asgL [3, 4] (consA (lrgE (un lenD (var 0))) (consA (un listD (var 0)) (nilA))))
  (sq (forS (itA enumUD (consA (bin itemU (var 1) (lit (.int 1))) (nilA))) (tgT [tgN 5, tgN 6]) (sq (ifS (orT (notT (test (callE f_is_whole [] (consA (var 6) (consA (lit (.int 0)) (consA (subI (un lenD (var 4)) (lit (.int 1))) (nilA))))))) (orT (testB (neE (bin itemU (var 4) (var 6)) (lit (.int 1)))) (testB (eqE (un lenD (var 4)) (lit (.int 1)))))) (sq (rai "BadPaper" (var 5)) stk) (fgt [] nx))
  (sq (asgT (tgT [tgN 3, tgN 4]) (callE f_own_step [] (consA (var 3) (consA (var 4) (consA (var 6) (nilA))))))
  (fgt [] nx))))
  (sq (ifS (testB (ltE (un minD (var 4)) (lit (.int 2)))) (sq (rai "BadPaper" (lit (.str "rest"))) stk) (fgt [] nx))
  (sq (rtn (lit (.str "endless"))) stk))))))))
def f_check_endless : FD := bodyD 7 2 false b_check_endless
def b_own_left : S :=
  sq (asgL [1, 2, 3] (consA (lrgE (un lenD (var 0))) (consA (un listD (var 0)) (consA (lstE (nilA)) (nilA)))))
  (sq (whlN (andT (testB (eqE (un minD (var 2)) (lit (.int 1)))) (testB (gtE (un lenD (var 2)) (lit (.int 1))))) (sq (asg 4 (idxE (var 2) (lit (.int 1))))
  (sq (appS 3 (var 4))
  (sq (asgT (tgT [tgN 1, tgN 2]) (callE f_own_step [] (consA (var 1) (consA (var 2) (consA (var 4) (nilA))))))
  (fgt [] nx)))) FU)
  (fgt [] (sq (rtn (tupE (consA (var 1) (consA (var 2) (consA (var 3) (nilA)))))) stk)))
def f_own_left : FD := bodyD 5 1 false b_own_left
def b_endless_paper : S :=
  sq (drp (callE f_need_numbers [] (consA (var 0) (consA (lit (.int 1)) (nilA)))))
  (sq (asgT (tgT [tgN 1, tgN 2, tgN 3]) (callE f_own_left [] (consA (var 0) (nilA))))
  (sq (ifS (testB (gtE (un minD (var 2)) (lit (.int 1)))) (sq (rtn (tupE (consA (lit (.str "endless")) (consA (un tupleD (var 3)) (nilA))))) stk) (fgt [] nx))
  (sq (asg 4 (un lenD (var 0)))
  (sq (ifS (testB (eqE (un minD (var 2)) (lit (.int 1)))) (sq (rtn (tupE (consA (lit (.str "ends")) (consA (bin itemU (var 1) (lit (.int 0))) (consA (bin addU (bin itemU (var 1) (lit (.int 0))) (bin mulU (lit (.int 3)) (var 4))) (nilA)))))) stk) (fgt [] nx))
  (sq (asg 5 (idxE (var 2) (un minD (var 2))))
  (sq (asgL [6, 7] (consA (bin itemU (var 1) (subI (var 5) (lit (.int 1)))) (consA (bin itemU (var 1) (modI (bin addU (var 5) (lit (.int 1))) (un lenD (var 1)))) (nilA))))
  (sq (ifS (testB (geE (var 6) (bin itemU (var 1) (var 5)))) (sq (asg 6 (bin (onI subD) (var 6) (var 4)))
  (fgt [] nx)) (fgt [] nx))
  (sq (ifS (testB (leE (var 7) (bin itemU (var 1) (var 5)))) (sq (asg 7 (bin (onI addD) (var 7) (var 4)))
  (fgt [] nx)) (fgt [] nx))
  (sq (rtn (ifE (testB (geE (var 6) (lit (.int 0)))) (tupE (consA (lit (.str "ends")) (consA (var 6) (consA (var 7) (nilA))))) (tupE (consA (lit (.str "ends")) (consA (bin addU (var 6) (var 4)) (consA (bin addU (var 7) (var 4)) (nilA))))))) stk)))))))))
def f_endless_paper : FD := bodyD 8 1 false b_endless_paper
def b_entry_between : S :=
  sq (drp (callE f_need_numbers [] (consA (var 0) (consA (lit (.int 1)) (nilA)))))
  (sq (ifS (notT (test (callE f_is_whole [] (consA (var 1) (consA (lit (.int 0)) (consA (subI (un lenD (var 0)) (lit (.int 1))) (nilA))))))) (sq (rai "BadNumber" (var 1)) stk) (fgt [] nx))
  (sq (ifS (notT (test (callE f_is_whole [] (consA (var 2) (consA (var 1) (consA (bin addU (var 1) (lit (.int 2000))) (nilA))))))) (sq (rai "BadNumber" (var 2)) stk) (fgt [] nx))
  (sq (rtn (callE f_own_entry [] (consA (var 0) (consA (var 1) (consA (var 2) (nilA)))))) stk)))
def f_entry_between : FD := bodyD 3 3 false b_entry_between
def b_own_endless : S :=
  sq (rtn (gtE (un minD (bin itemU (callE f_own_left [] (consA (var 0) (nilA))) (lit (.int 1)))) (lit (.int 1)))) stk
def f_own_endless : FD := bodyD 1 1 false b_own_endless
def b_is_endless : S :=
  sq (drp (callE f_need_numbers [] (consA (var 0) (consA (lit (.int 1)) (nilA)))))
  (sq (rtn (callE f_own_endless [] (consA (var 0) (nilA)))) stk)
def f_is_endless : FD := bodyD 1 1 false b_is_endless
def b_left_of : S :=
  sq (drp (callE f_need_numbers [] (consA (var 0) (consA (lit (.int 1)) (nilA)))))
  (sq (rtn (un tupleD (bin itemU (callE f_own_left [] (consA (var 0) (nilA))) (lit (.int 1))))) stk)
def f_left_of : FD := bodyD 1 1 false b_left_of
def b_own_trace : S :=
  sq (asg 1 (un lenD (var 0)))
  (sq (rtn (subI (callE f_own_entry [] (consA (var 0) (consA (lit (.int 0)) (consA (bin addU (var 1) (lit (.int 1))) (nilA))))) (callE f_own_entry [] (consA (var 0) (consA (lit (.int 1)) (consA (var 1) (nilA))))))) stk)
def f_own_trace : FD := bodyD 2 1 false b_own_trace
def b_row_trace : S :=
  sq (drp (callE f_need_numbers [] (consA (var 0) (consA (lit (.int 1)) (nilA)))))
  (sq (rtn (callE f_own_trace [] (consA (var 0) (nilA)))) stk)
def f_row_trace : FD := bodyD 1 1 false b_row_trace
def fl_0 : FD := lamFD 1 1 (callE f_check_endless [] (consA (var 0) (consA (lit .none) (nilA))))
def tF (y : Str) : Option FD := if y = "is_endless" then some f_is_endless else if y = "left_of" then some f_left_of else if y = "endless_paper" then some f_endless_paper else if y = "row_trace" then some f_row_trace else none
def tL (n : Nat) : Option FD := if n = 0 then some fl_0 else none
def b__law_refused : S :=
  sq (asg 0 (lstE (nilA)))
  (sq (forS (itV (tupE (consA (tupE (consA (lit .none) (consA (lit .none) (nilA)))) (consA (tupE (consA (tupE (nilA)) (consA (lit .none) (nilA)))) (consA (tupE (consA (lstE (consA (lit (.int 2)) (nilA))) (consA (lit .none) (nilA)))) (consA (tupE (consA (bin mulU (tupE (consA (lit (.int 2)) (nilA))) (lit (.int 25))) (consA (lit .none) (nilA)))) (consA (tupE (consA (tupE (consA (lit (.int 2)) (consA (lit .none) (nilA)))) (consA (lit (.int 1)) (nilA)))) (consA (tupE (consA (tupE (consA (lit (.int 2)) (consA (lit (.int 1001)) (nilA)))) (consA (lit (.int 1)) (nilA)))) (nilA))))))))) (tgT [tgN 1, tgN 2]) (sq (forS (itV (tupE (consA (lit (fnD "is_endless")) (consA (lit (fnD "left_of")) (consA (lit (fnD "endless_paper")) (consA (lit (fnD "row_trace")) (consA (lit (lamD 0)) (nilA)))))))) (tgN 3) (sq (tryS (sq (drp (callS tF tL 3 (consA (var 1) (nilA))))
  (fgt [] nx)) "BadRow" [] 4 (fun d => sq (appS 0 (eqE (lit d) (var 2)))
  (fgt [] nx)))
  (fgt [] nx)))
  (sq (tryS (sq (drp (callE f_entry_between [] (consA (var 1) (consA (lit .none) (consA (lit .none) (nilA))))))
  (fgt [] nx)) "BadRow" [] 4 (fun d => sq (appS 0 (eqE (lit d) (var 2)))
  (fgt [] nx)))
  (fgt [] nx))))
  (sq (forS (itV (tupE (consA (tupE (consA (lit (.int 2)) (consA (lit .none) (consA (lit (.int 2)) (nilA))))) (consA (tupE (consA (un negD (lit (.int 1))) (consA (lit .none) (consA (un negD (lit (.int 1))) (nilA))))) (consA (tupE (consA (lit (.bool true)) (consA (lit (.int 0)) (consA (lit (.bool true)) (nilA))))) (consA (tupE (consA (lit (.int 1)) (consA (lit (.int 0)) (consA (lit (.int 0)) (nilA))))) (consA (tupE (consA (lit (.int 1)) (consA (lit (.int 2002)) (consA (lit (.int 2002)) (nilA))))) (consA (tupE (consA (lit (.int 0)) (consA (lit .none) (consA (lit .none) (nilA))))) (nilA))))))))) (tgT [tgN 5, tgN 6, tgN 1]) (sq (tryS (sq (drp (callE f_entry_between [] (consA (tupE (consA (lit (.int 2)) (consA (lit (.int 3)) (nilA)))) (consA (var 5) (consA (var 6) (nilA))))))
  (fgt [] nx)) "BadNumber" [] 4 (fun d => sq (appS 0 (eqE (app repr1 (consA (lit d) nilA)) (app repr1 (consA (var 1) nilA))))
  (fgt [] nx)))
  (fgt [] nx)))
  (sq (rtn (andV (eqE (var 0) (bin repL (lstE (consA (lit (.bool true)) (nilA))) (lit (.int 42)))) (eqE (callE f_entry_between [] (consA (tupE (consA (lit (.int 2)) (nilA))) (consA (lit (.int 0)) (consA (lit (.int 2000)) (nilA))))) (lit (.int 2000))))) stk)))
def f__law_refused : FD := bodyD 7 0 false b__law_refused
def b__law_mixed : S :=
  sq (asg 2 (bin addU (bin addU (modI (var 0) (bin itemU (lstE (consA (lit (.int 1000000007)) (consA (lit (.int 998244353)) (consA (lit (.int 2147483629)) (consA (lit (.int 1000000009)) (nilA)))))) (modI (var 1) (lit (.int 4))))) (bin mulU (lit (.int 7919)) (var 1))) (lit (.int 13))))
  (sq (rtn (modI (bin mulU (modI (bin mulU (var 2) (var 2)) (lit (.int 2147483647))) (lit (.int 48271))) (lit (.int 2147483647)))) stk)
def f__law_mixed : FD := bodyD 3 2 false b__law_mixed
def b__law_digit : S :=
  sq (ifS (testB (eqE (bin dgetD (var 0) (lit (.str "left"))) (lit (.int 0)))) (sq (forS (itA rng1D (consA (lit (.int 4)) (nilA))) (tgN 2) (sq (putS 0 (lit (.str "turns")) (bin addU (bin dgetD (var 0) (lit (.str "turns"))) (lit (.int 1))))
  (sq (putS 0 (lit (.str "left")) (bin addU (bin mulU (bin dgetD (var 0) (lit (.str "left"))) (lit (.int 2147483647))) (callE f__law_mixed [] (consA (bin dgetD (var 0) (lit (.str "cell"))) (consA (bin dgetD (var 0) (lit (.str "turns"))) (nilA))))))
  (fgt [] nx))))
  (fgt [] nx)) (fgt [] nx))
  (sq (asg 3 (modI (bin dgetD (var 0) (lit (.str "left"))) (var 1)))
  (sq (putS 0 (lit (.str "left")) (fdivI (bin dgetD (var 0) (lit (.str "left"))) (var 1)))
  (sq (rtn (var 3)) stk)))
def f__law_digit : FD := bodyD 4 2 false b__law_digit
def b__law_line : S :=
  sq (asg 3 (lstE (consA (lit (.int 0)) (consA (lit (.int 1)) (nilA)))))
  (sq (forS (itA rng2D (consA (lit (.int 1)) (consA (var 2) (nilA)))) (tgN 4) (sq (appS 3 (subI (bin mulU (bin itemU (var 0) (modI (bin addU (var 1) (var 4)) (un lenD (var 0)))) (bin itemD (var 3) (var 4))) (bin itemD (var 3) (subI (var 4) (lit (.int 1))))))
  (fgt [] nx)))
  (sq (rtn (sliU (var 3) (noPart) (part (bin addU (var 2) (lit (.int 1)))))) stk))
def f__law_line : FD := bodyD 5 3 false b__law_line
def b__law_without : S :=
  sq (asg 2 (un listD (var 0)))
  (sq (setS 2 (subI (var 1) (lit (.int 1))) (subI (bin itemD (var 2) (subI (var 1) (lit (.int 1)))) (lit (.int 1))))
  (sq (setS 2 (modI (bin addU (var 1) (lit (.int 1))) (un lenD (var 2))) (subI (bin itemD (var 2) (modI (bin addU (var 1) (lit (.int 1))) (un lenD (var 2)))) (lit (.int 1))))
  (sq (rtn (bin addU (sliU (var 2) (noPart) (part (var 1))) (sliU (var 2) (part (bin addU (var 1) (lit (.int 1)))) (noPart)))) stk)))
def f__law_without : FD := bodyD 3 2 false b__law_without
def b__law_due : S :=
  sq (asg 2 (un lenD (var 0)))
  (sq (ifS (orT (notT (test (un (isiD "tuple") (var 1)))) (orT (testB (bin notInD (un lenD (var 1)) (tupE (consA (lit (.int 2)) (consA (lit (.int 3)) (nilA)))))) (notT (test (un (isiD "str") (bin itemU (var 1) (lit (.int 0)))))))) (sq (rtn (lstE (consA (lit .none) (nilA)))) stk) (fgt [] nx))
  (sq (ifS (testB (bin notInD (tupE (consA (bin itemU (var 1) (lit (.int 0))) (consA (un lenD (var 1)) (nilA)))) (tupE (consA (tupE (consA (lit (.str "endless")) (consA (lit (.int 2)) (nilA)))) (consA (tupE (consA (lit (.str "ends")) (consA (lit (.int 3)) (nilA)))) (nilA)))))) (sq (rtn (lstE (consA (lit .none) (nilA)))) stk) (fgt [] nx))
  (sq (ifS (testB (eqE (bin itemU (var 1) (lit (.int 0))) (lit (.str "ends")))) (sq (ifS (testB (neE (lcE [3] (itV (sliU (var 1) (part (lit (.int 1))) (noPart))) (tgN 3) (orT (notT (test (un (isiD "int") (var 3)))) (test (un (isiD "bool") (var 3)))) (var 3)) (lstE (nilA)))) (sq (rtn (lstE (consA (lit (.str "mark")) (nilA)))) stk) (fgt [] nx))
  (sq (ifS (orT (notT (testB (chn (onI leD) (onI ltD) (lit (.int 0)) (bin itemU (var 1) (lit (.int 1))) (var 2)))) (notT (testB (chn (onI leD) (onI leD) (bin addU (bin itemU (var 1) (lit (.int 1))) (lit (.int 2))) (bin itemU (var 1) (lit (.int 2))) (bin addU (bin itemU (var 1) (lit (.int 1))) (bin mulU (lit (.int 3)) (var 2))))))) (sq (rtn (lstE (consA (lit (.str "mark")) (nilA)))) stk) (fgt [] nx))
  (sq (rtn (ifE (testB (ltE (bin itemU (callE f__law_line [] (consA (var 0) (consA (bin itemU (var 1) (lit (.int 1))) (consA (subI (bin itemU (var 1) (lit (.int 2))) (bin itemU (var 1) (lit (.int 1)))) (nilA))))) (un negD (lit (.int 1)))) (lit (.int 1)))) (lit (.str "ends")) (lstE (consA (lit (.str "entry")) (nilA))))) stk))) (fgt [] nx))
  (sq (ifS (notT (test (un (isiD "tuple") (bin itemU (var 1) (lit (.int 1)))))) (sq (rtn (lstE (consA (lit (.str "places")) (nilA)))) stk) (fgt [] nx))
  (sq (asg 4 (un listD (var 0)))
  (sq (forS (itA enumUD (consA (bin itemU (var 1) (lit (.int 1))) (nilA))) (tgT [tgN 5, tgN 6]) (sq (ifS (orT (notT (test (un (isiD "int") (var 6)))) (orT (test (un (isiD "bool") (var 6))) (orT (notT (testB (chn (onI leD) (onI ltD) (lit (.int 0)) (var 6) (un lenD (var 4))))) (testB (eqE (un lenD (var 4)) (lit (.int 1))))))) (sq (rtn (lstE (consA (var 5) (nilA)))) stk) (fgt [] nx))
  (sq (ifS (testB (neE (bin itemU (var 4) (var 6)) (lit (.int 1)))) (sq (rtn (lstE (consA (var 5) (nilA)))) stk) (fgt [] nx))
  (sq (asg 4 (callE f__law_without [] (consA (var 4) (consA (var 6) (nilA)))))
  (fgt [] nx)))))
  (sq (rtn (ifE (testB (gtE (un minD (var 4)) (lit (.int 1)))) (lit (.str "endless")) (lstE (consA (lit (.str "rest")) (nilA))))) stk)))))))
def f__law_due : FD := bodyD 7 2 false b__law_due
def b__law_left : S :=
  sq (asg 1 (un listD (var 0)))
  (sq (forS (itA rng1D (consA (un lenD (var 0)) (nilA))) (tgN 2) (sq (ifS (andT (testB (eqE (un minD (var 1)) (lit (.int 1)))) (testB (gtE (un lenD (var 1)) (lit (.int 1))))) (sq (asg 1 (callE f__law_without [] (consA (var 1) (consA (idxE (var 1) (lit (.int 1))) (nilA)))))
  (fgt [] nx)) (fgt [] nx))
  (fgt [] nx)))
  (sq (rtn (var 1)) stk))
def f__law_left : FD := bodyD 3 1 false b__law_left
def b__law_papers : S :=
  sq (asg 3 (un lenD (var 1)))
  (sq (asgL [4, 5] (consA (callIO f__law_digit 0 (consA (var 3) (nilA))) (consA (callIO f__law_digit 0 (consA (bin mulU (lit (.int 3)) (var 3)) (nilA))) (nilA))))
  (sq (asg 6 (lstE (consA (lit .none) (consA (tupE (nilA)) (consA (un listD (var 2)) (consA (bin addU (var 2) (tupE (consA (lit (.int 0)) (nilA)))) (consA (sliU (var 2) (noPart) (part (lit (.int 1)))) (consA (bin addU (tupE (consA (lit .none) (nilA))) (sliU (var 2) (part (lit (.int 1))) (noPart))) (consA (bin addU (tupE (consA (lstE (nilA)) (nilA))) (sliU (var 2) (part (lit (.int 1))) (noPart))) (consA (tupE (consA (lit (.str "else")) (consA (tupE (nilA)) (nilA)))) (nilA)))))))))))
  (sq (asg 6 (bin catL (var 6) (lstE (consA (tupE (consA (lit (.str "ends")) (consA (var 4) (consA (bin addU (bin addU (var 4) (lit (.int 2))) (var 5)) (nilA))))) (consA (tupE (consA (lit (.str "ends")) (consA (var 4) (consA (bin addU (var 4) (lit (.int 1))) (nilA))))) (consA (tupE (consA (lit (.str "ends")) (consA (un negD (lit (.int 1))) (consA (lit (.int 2)) (nilA))))) (consA (tupE (consA (lit (.str "ends")) (consA (var 3) (consA (bin addU (var 3) (lit (.int 2))) (nilA))))) (nilA))))))))
  (sq (asg 6 (bin catL (var 6) (lstE (consA (tupE (consA (lit (.str "ends")) (consA (var 4) (consA (bin addU (var 4) (bin mulU (lit (.int 3)) (var 3))) (nilA))))) (consA (tupE (consA (lit (.str "ends")) (consA (var 4) (consA (bin addU (bin addU (var 4) (bin mulU (lit (.int 3)) (var 3))) (lit (.int 1))) (nilA))))) (consA (tupE (consA (lit (.str "ends")) (consA (lit (.bool true)) (consA (lit (.int 3)) (nilA))))) (consA (lit (.str "ends")) (nilA))))))))
  (sq (asg 6 (bin catL (var 6) (lstE (consA (tupE (consA (lit (.str "endless")) (consA (tupE (nilA)) (nilA)))) (consA (tupE (consA (lit (.str "endless")) (consA (tupE (consA (var 4) (nilA))) (nilA)))) (consA (tupE (consA (lit (.str "endless")) (consA (lstE (consA (var 4) (nilA))) (nilA)))) (consA (tupE (consA (lit (.str "endless")) (consA (tupE (consA (var 3) (nilA))) (nilA)))) (consA (tupE (consA (lit (.str "ends")) (consA (lit (.int 0)) (consA (lit .none) (nilA))))) (nilA)))))))))
  (sq (appS 6 (tupE (consA (lit (.str "endless")) (consA (tupE (consA (lit (.bool true)) (nilA))) (nilA)))))
  (sq (ifS (testB (eqE (bin itemU (var 2) (lit (.int 0))) (lit (.str "endless")))) (sq (asg 7 (callIO f__law_digit 0 (consA (bin addU (un lenD (bin itemU (var 2) (lit (.int 1)))) (lit (.int 1))) (nilA))))
  (sq (forS (itV (tupE (consA (var 4) (consA (lit .none) (consA (un negD (lit (.int 1))) (nilA)))))) (tgN 8) (sq (appS 6 (tupE (consA (lit (.str "endless")) (consA (bin addU (bin addU (sliU (bin itemU (var 2) (lit (.int 1))) (noPart) (part (var 7))) (tupE (consA (var 8) (nilA)))) (sliU (bin itemU (var 2) (lit (.int 1))) (part (var 7)) (noPart))) (nilA)))))
  (fgt [] nx)))
  (sq (asg 6 (bin catL (var 6) (lstE (consA (tupE (consA (lit (.str "endless")) (consA (sliU (bin itemU (var 2) (lit (.int 1))) (part (lit (.int 1))) (noPart)) (nilA)))) (consA (tupE (consA (lit (.str "endless")) (consA (un revU (bin itemU (var 2) (lit (.int 1)))) (nilA)))) (consA (tupE (consA (lit (.str "endless")) (consA (bin addU (bin itemU (var 2) (lit (.int 1))) (bin mulU (tupE (consA (lit (.int 0)) (nilA))) (lit (.int 25)))) (nilA)))) (nilA)))))))
  (fgt [] nx)))) (fgt [] nx))
  (fgt [] (sq (rtn (var 6)) stk)))))))))
def f__law_papers : FD := bodyD 9 3 false b__law_papers
def b__law_told : S :=
  sq (asg 2 (lit .none))
  (sq (tryS (sq (asg 2 (callE f_check_endless [] (consA (var 0) (consA (var 1) (nilA)))))
  (fgt [] nx)) "BadPaper" [] 3 (fun d => sq (asg 2 (lstE (consA (lit d) (nilA))))
  (fgt [] nx)))
  (sq (rtn (var 2)) stk))
def f__law_told : FD := bodyD 4 2 false b__law_told
def b__law_trace : S :=
  sq (asgL [1, 2, 3, 4] (consA (lit (.int 1)) (consA (lit (.int 0)) (consA (lit (.int 0)) (consA (lit (.int 1)) (nilA))))))
  (sq (forS (itV (var 0)) (tgN 5) (sq (asgL [1, 2, 3, 4] (consA (bin addU (bin mulU (var 1) (var 5)) (var 2)) (consA (subI (lit (.int 0)) (var 1)) (consA (bin addU (bin mulU (var 3) (var 5)) (var 4)) (consA (subI (lit (.int 0)) (var 3)) (nilA))))))
  (fgt [] nx)))
  (sq (rtn (bin addU (var 1) (var 4))) stk))
def f__law_trace : FD := bodyD 6 1 false b__law_trace
def b__law_right : S :=
  sq (asgL [2, 3] (consA (un lenD (var 1)) (consA (callE f__law_left [] (consA (var 1) (nilA))) (nilA))))
  (sq (asg 4 (lcE [5] (itA rng1D (consA (var 2) (nilA))) (tgN 5) (testB (ltE (un minD (sliU (callE f__law_line [] (consA (var 1) (consA (var 5) (consA (bin addU (bin mulU (lit (.int 7)) (var 2)) (lit (.int 2))) (nilA))))) (part (lit (.int 1))) (noPart))) (lit (.int 1)))) (var 5)))
  (sq (asg 6 (eqE (var 4) (lstE (nilA))))
  (sq (ifS (orT (testB (neE (gtE (un minD (var 3)) (lit (.int 1))) (var 6))) (orT (testB (neE (app repr1 (consA (callE f_is_endless [] (consA (var 1) (nilA))) nilA)) (app repr1 (consA (var 6) nilA)))) (testB (neE (callK f_is_endless [0] (consA (var 1) (nilA))) (var 6))))) (sq (rtn (lit (.bool false))) stk) (fgt [] nx))
  (sq (ifS (orT (testB (neE (app repr1 (consA (callE f_left_of [] (consA (var 1) (nilA))) nilA)) (app repr1 (consA (un tupleD (var 3)) nilA)))) (testB (neE (callK f_left_of [0] (consA (var 1) (nilA))) (un tupleD (var 3))))) (sq (rtn (lit (.bool false))) stk) (fgt [] nx))
  (sq (asg 7 (callE f__law_trace [] (consA (var 1) (nilA))))
  (sq (ifS (orT (testB (neE (app repr1 (consA (callE f_row_trace [] (consA (var 1) (nilA))) nilA)) (app repr1 (consA (var 7) nilA)))) (orT (testB (neE (callK f_row_trace [0] (consA (var 1) (nilA))) (var 7))) (testB (neE (callE f__law_trace [] (consA (var 3) (nilA))) (var 7))))) (sq (rtn (lit (.bool false))) stk) (fgt [] nx))
  (sq (ifS (andT (test (var 6)) (testB (ltE (var 7) (lit (.int 2))))) (sq (rtn (lit (.bool false))) stk) (fgt [] nx))
  (sq (asg 8 (callE f_endless_paper [] (consA (var 1) (nilA))))
  (sq (asg 9 (callE f__law_due [] (consA (var 1) (consA (var 8) (nilA)))))
  (sq (ifS (orT (testB (neE (var 9) (ifE (test (var 6)) (lit (.str "endless")) (lit (.str "ends"))))) (testB (neE (callK f_endless_paper [0] (consA (var 1) (nilA))) (var 8)))) (sq (rtn (lit (.bool false))) stk) (fgt [] nx))
  (sq (ifS (testB (neE (callK f_check_endless [1, 0] (consA (var 8) (consA (var 1) (nilA)))) (var 9))) (sq (rtn (lit (.bool false))) stk) (fgt [] nx))
  (sq (forS (itV (callIO f__law_papers 0 (consA (var 1) (consA (var 8) (nilA))))) (tgN 10) (sq (ifS (testB (neE (callE f__law_told [] (consA (var 1) (consA (var 10) (nilA)))) (callE f__law_due [] (consA (var 1) (consA (var 10) (nilA)))))) (sq (rtn (lit (.bool false))) stk) (fgt [] nx))
  (fgt [] nx)))
  (sq (asgL [5, 11] (consA (callIO f__law_digit 0 (consA (var 2) (nilA))) (consA (callIO f__law_digit 0 (consA (lit (.int 40)) (nilA))) (nilA))))
  (sq (asg 12 (bin itemU (callE f__law_line [] (consA (var 1) (consA (var 5) (consA (var 11) (nilA))))) (un negD (lit (.int 1)))))
  (sq (ifS (testB (neE (app repr1 (consA (callE f_entry_between [] (consA (var 1) (consA (var 5) (consA (bin addU (var 5) (var 11)) (nilA))))) nilA)) (app repr1 (consA (var 12) nilA)))) (sq (rtn (lit (.bool false))) stk) (fgt [] nx))
  (sq (rtn (eqE (callK f_entry_between [2, 1, 0] (consA (bin addU (var 5) (var 11)) (consA (var 5) (consA (var 1) (nilA))))) (var 12))) stk))))))))))))))))
def f__law_right : FD := bodyD 13 2 false b__law_right
def b__law_row : S :=
  sq (asg 1 (eqE (callIO f__law_digit 0 (consA (lit (.int 2)) (nilA))) (lit (.int 0))))
  (sq (ifS (testB (eqE (callIO f__law_digit 0 (consA (lit (.int 4)) (nilA))) (lit (.int 0)))) (sq (rtn (un tupleD (lcE [2] (itA rng1D (consA (bin addU (lit (.int 1)) (callIO f__law_digit 0 (consA (ifE (test (var 1)) (lit (.int 24)) (lit (.int 5))) (nilA)))) (nilA))) (tgN 2) (noT) (subI (callIO f__law_digit 0 (consA (lit (.int 6)) (nilA))) (lit (.int 1)))))) stk) (fgt [] nx))
  (sq (asg 3 (lcE [2] (itA rng1D (consA (bin addU (lit (.int 1)) (callIO f__law_digit 0 (consA (ifE (test (var 1)) (lit (.int 8)) (lit (.int 3))) (nilA)))) (nilA))) (tgN 2) (noT) (bin addU (lit (.int 2)) (callIO f__law_digit 0 (consA (lit (.int 3)) (nilA))))))
  (sq (forS (itA rng1D (consA (callIO f__law_digit 0 (consA (ifE (test (var 1)) (lit (.int 17)) (lit (.int 4))) (nilA))) (nilA))) (tgN 4) (sq (asg 5 (callIO f__law_digit 0 (consA (un lenD (var 3)) (nilA))))
  (sq (setS 3 (var 5) (bin addU (bin itemD (var 3) (var 5)) (lit (.int 1))))
  (sq (setS 3 (modI (bin addU (var 5) (lit (.int 1))) (un lenD (var 3))) (bin addU (bin itemD (var 3) (modI (bin addU (var 5) (lit (.int 1))) (un lenD (var 3)))) (lit (.int 1))))
  (sq (asg 3 (bin catL (bin addU (sliU (var 3) (noPart) (part (bin addU (var 5) (lit (.int 1))))) (lstE (consA (lit (.int 1)) (nilA)))) (sliU (var 3) (part (bin addU (var 5) (lit (.int 1)))) (noPart))))
  (fgt [] nx))))))
  (sq (ifS (testB (eqE (callIO f__law_digit 0 (consA (lit (.int 3)) (nilA))) (lit (.int 0)))) (sq (asg 5 (callIO f__law_digit 0 (consA (un lenD (var 3)) (nilA))))
  (sq (setS 3 (var 5) (subI (subI (bin itemD (var 3) (var 5)) (lit (.int 1))) (callIO f__law_digit 0 (consA (lit (.int 2)) (nilA)))))
  (fgt [] nx))) (fgt [] nx))
  (sq (rtn (un tupleD (var 3))) stk)))))
def f__law_row : FD := bodyD 6 1 false b__law_row
def b_law : S :=
  sq (forS (itA enumUD (consA (bin addU (sliU (var 0) (noPart) (part (lit (.int 3)))) (lstE (consA (un sumD (var 0)) (nilA)))) (nilA))) (tgT [tgN 1, tgN 2]) (sq (asg 3 (callE f__law_draw [] (consA (var 2) (consA (var 1) (nilA)))))
  (sq (ifS (notT (test (callIO f__law_right 3 (consA (callIO f__law_row 3 (nilA)) (nilA))))) (sq (rtn (lit (.bool false))) stk) (fgt [] nx))
  (fgt [] nx))))
  (sq (asg 4 (lstE (consA (tupE (consA (tupE (consA (lit (.int 2)) (nilA))) (consA (lit (.bool true)) (nilA)))) (consA (tupE (consA (tupE (consA (lit (.int 1)) (nilA))) (consA (lit (.bool false)) (nilA)))) (consA (tupE (consA (tupE (consA (lit (.int 1)) (consA (lit (.int 4)) (nilA)))) (consA (lit (.bool true)) (nilA)))) (consA (tupE (consA (tupE (consA (lit (.int 1)) (consA (lit (.int 3)) (nilA)))) (consA (lit (.bool false)) (nilA)))) (consA (tupE (consA (tupE (consA (lit (.int 1)) (consA (lit (.int 1)) (nilA)))) (consA (lit (.bool false)) (nilA)))) (consA (tupE (consA (tupE (consA (lit (.int 0)) (nilA))) (consA (lit (.bool false)) (nilA)))) (nilA)))))))))
  (sq (appS 4 (tupE (consA (tupE (consA (lit (.int 1)) (consA (lit (.int 5)) (consA (lit (.int 1)) (consA (lit (.int 5)) (nilA)))))) (consA (lit (.bool true)) (nilA)))))
  (fgt [] (sq (ifS (testB (neE (lcE [5, 6] (itV (var 4)) (tgT [tgN 5, tgN 6]) (noT) (callE f_is_endless [] (consA (var 5) (nilA)))) (lcE [5, 6] (itV (var 4)) (tgT [tgN 5, tgN 6]) (noT) (var 6)))) (sq (rtn (lit (.bool false))) stk) (fgt [] nx))
  (sq (ifS (testB (neE (lstE (consA (callE f_is_endless [] (consA (bin mulU (tupE (consA (lit (.int 2)) (nilA))) (lit (.int 24))) (nilA))) (consA (callE f_is_endless [] (consA (bin mulU (tupE (consA (lit (.int 1000)) (nilA))) (lit (.int 24))) (nilA))) (consA (callE f_is_endless [] (consA (tupE (consA (un negD (lit (.int 1000))) (nilA))) (nilA))) (nilA))))) (lstE (consA (lit (.bool true)) (consA (lit (.bool true)) (consA (lit (.bool false)) (nilA))))))) (sq (rtn (lit (.bool false))) stk) (fgt [] nx))
  (sq (rtn (callE f__law_refused [] nilA)) stk))))))
def f_law : FD := bodyD 7 1 false b_law
end K60

/-! K60M -/
set_option linter.all false
set_option maxRecDepth 100000
/-! k60, the mathematics: entries of a row read round, ones taken out, traces. -/
namespace K60
/-- a row read round -/
def rd (l : List Int) (j : Nat) : Int := l.getD (j % l.length) 0
/-- the entry from the mark i to the mark i + k -/
def en (a : Nat → Int) (i : Nat) : Nat → Int
  | 0 => 0
  | 1 => 1
  | k + 2 => a (i + k + 1) * en a i (k + 1) - en a i k
theorem en_two (a : Nat → Int) (i k : Nat) : en a i (k + 2) = a (i + k + 1) * en a i (k + 1) - en a i k := rfl
/-- from the left -/
theorem en_left (a : Nat → Int) : ∀ (k i : Nat), en a i (k + 2) = a (i + 1) * en a (i + 1) (k + 1) - en a (i + 2) k
  | 0, i => by simp [en]
  | 1, i => by simp [en]; grind
  | k + 2, i => by
    have h1 := en_left a (k + 1) i
    have h2 := en_left a k i
    rw [en_two a i (k + 2), show k + 2 + 1 = (k + 1) + 2 from rfl, h1, h2]
    have e1 : en a (i + 1) (k + 1 + 2) = a (i + 1 + (k + 1) + 1) * en a (i + 1) (k + 1 + 1) - en a (i + 1) (k + 1) := rfl
    have e2 : en a (i + 2) (k + 2) = a (i + 2 + k + 1) * en a (i + 2) (k + 1) - en a (i + 2) k := rfl
    rw [e1, e2, show i + 1 + (k + 1) + 1 = i + (k + 2) + 1 by omega, show i + 2 + k + 1 = i + (k + 2) + 1 by omega]
    grind
theorem en_shift (a b : Nat → Int) (i j : Nat) (h : ∀ x, a (i + x) = b (j + x)) : ∀ k, en a i k = en b j k
  | 0 => rfl
  | 1 => rfl
  | k + 2 => by
    rw [en_two, en_two, en_shift a b i j h (k + 1), en_shift a b i j h k]
    rw [show i + k + 1 = i + (k + 1) by omega, h (k + 1), show j + (k + 1) = j + k + 1 by omega]
/-- one row stands in another: the marks φ of b in a, between which nothing lies but single ones -/
structure Sub (a b : Nat → Int) (φ : Nat → Nat) : Prop where
  gap : ∀ j, φ (j + 1) = φ j + 1 ∨ (φ (j + 1) = φ j + 2 ∧ a (φ j + 1) = 1)
  val : ∀ j, b (j + 1) = a (φ (j + 1)) - (if φ (j + 1) = φ j + 2 then 1 else 0) - (if φ (j + 2) = φ (j + 1) + 2 then 1 else 0)
theorem Sub.mono {a b : Nat → Int} {φ : Nat → Nat} (S : Sub a b φ) : ∀ i k, φ i + k ≤ φ (i + k)
  | i, 0 => Nat.le_refl _
  | i, k + 1 => by
    have h := S.mono i k
    have g := S.gap (i + k)
    rw [show i + (k + 1) = i + k + 1 from rfl]
    omega
/-- an entry at a mark of b -/
theorem Sub.entry {a b : Nat → Int} {φ : Nat → Nat} (S : Sub a b φ) (i : Nat) : ∀ k, en b i k = en a (φ i) (φ (i + k) - φ i)
  | 0 => by simp [en]
  | 1 => by
    rcases S.gap i with h | ⟨h, h1⟩
    · rw [h, show φ i + 1 - φ i = 1 by omega]; rfl
    · rw [h, show φ i + 2 - φ i = 2 by omega, en_two]
      simp only [Nat.add_zero, h1]
      rfl
  | k + 2 => by
    have h1 := S.entry i (k + 1)
    have h0 := S.entry i k
    rw [en_two, h1, h0]
    have m0 := S.mono i k
    have m1 := S.mono i (k + 1)
    have v := S.val (i + k)
    have g1 := S.gap (i + k)
    have g2 := S.gap (i + k + 1)
    rw [show i + (k + 1) = i + k + 1 from rfl] at *
    rw [show i + (k + 2) = i + k + 2 from rfl]
    rw [show i + k + 1 + 1 = i + k + 2 from rfl] at *
    generalize hp : φ (i + k) = p at *
    generalize hm : φ (i + k + 1) = m at *
    generalize hn : φ (i + k + 2) = n at *
    rw [v]
    -- left of m
    have hm0 : φ i < m := by omega
    obtain ⟨t, ht⟩ : ∃ t, m = φ i + t + 1 := ⟨m - φ i - 1, by omega⟩
    have el : en a (φ i) (m - φ i - 1) = en a (φ i) (p - φ i) + (if m = p + 2 then 1 else 0) * en a (φ i) (m - φ i) := by
      rcases g1 with g | ⟨g, g3⟩
      · rw [if_neg (by omega), show m - φ i - 1 = p - φ i by omega]; grind
      · rw [if_pos g, show m - φ i = (p - φ i) + 2 by omega, en_two]
        rw [show p - φ i + 2 - 1 = p - φ i + 1 by omega, show φ i + (p - φ i) + 1 = p + 1 by omega, g3]; grind
    have ec : en a (φ i) (m - φ i + 1) = a m * en a (φ i) (m - φ i) - en a (φ i) (m - φ i - 1) := by
      rw [show m - φ i + 1 = t + 2 by omega, en_two, show φ i + t + 1 = m by omega, show m - φ i = t + 1 by omega, show t + 1 - 1 = t by omega]
    have er : en a (φ i) (n - φ i) = en a (φ i) (m - φ i + 1) - (if n = m + 2 then 1 else 0) * en a (φ i) (m - φ i) := by
      rcases g2 with g | ⟨g, g3⟩
      · rw [if_neg (by omega), show n - φ i = m - φ i + 1 by omega]; grind
      · rw [if_pos g, show n - φ i = (m - φ i) + 2 by omega, en_two]
        rw [show φ i + (m - φ i) + 1 = m + 1 by omega, g3]; grind
    rw [er, ec, el]
    grind
/-- all entries are above 0 -/
def Pos (a : Nat → Int) : Prop := ∀ i k, 0 < en a i (k + 1)
theorem Pos.le {a : Nat → Int} (h : Pos a) (i k : Nat) : 0 ≤ en a i k := by
  cases k with
  | zero => exact Int.le_refl _
  | succ k => exact Int.le_of_lt (h i k)
/-- what is above 1 everywhere -/
theorem pos_of_two {a : Nat → Int} (h : ∀ j, 2 ≤ a (j + 1)) (i : Nat) : ∀ k, en a i k < en a i (k + 1) ∧ 0 ≤ en a i k
  | 0 => by simp [en]
  | k + 1 => by
    have ih := pos_of_two h i k
    refine ⟨?_, by omega⟩
    rw [en_two]
    have h2 := h (i + k)
    have : 2 * en a i (k + 1) ≤ a (i + k + 1) * en a i (k + 1) := Int.mul_le_mul_of_nonneg_right h2 (by omega)
    omega
theorem pos_two {a : Nat → Int} (h : ∀ j, 2 ≤ a (j + 1)) : Pos a := fun i k => by
  have := pos_of_two h i k
  omega

/-! ### a one taken out -/
theorem step_mod {m : Nat} (hm : 0 < m) (j : Nat) : (j % m + 1 < m ∧ (j + 1) % m = j % m + 1 ∧ (j + 1) / m = j / m) ∨ (j % m + 1 = m ∧ (j + 1) % m = 0 ∧ (j + 1) / m = j / m + 1) := by
  have hl := Nat.mod_lt j hm
  have e := Nat.div_add_mod j m
  rcases Nat.lt_or_ge (j % m + 1) m with h | h
  · left
    have : j + 1 = (j % m + 1) + m * (j / m) := by omega
    refine ⟨h, ?_, ?_⟩
    · rw [this, Nat.add_mul_mod_self_left, Nat.mod_eq_of_lt h]
    · rw [this, Nat.add_mul_div_left _ _ hm, Nat.div_eq_of_lt h, Nat.zero_add]
  · right
    have h' : j % m + 1 = m := by omega
    have : j + 1 = 0 + m * (j / m + 1) := by rw [Nat.mul_add, Nat.mul_one]; omega
    refine ⟨h', ?_, ?_⟩
    · rw [this, Nat.add_mul_mod_self_left, Nat.zero_mod]
    · rw [this, Nat.add_mul_div_left _ _ hm, Nat.zero_div, Nat.zero_add]
/-- one less at a place -/
def dec (l : List Int) (i : Nat) : List Int := l.set i (l.getD i 0 - 1)
/-- the row without the one at p -/
def wo (l : List Int) (p : Nat) : List Int := (dec (dec l ((p + l.length - 1) % l.length)) ((p + 1) % l.length)).eraseIdx p
theorem dec_len (l : List Int) (i : Nat) : (dec l i).length = l.length := by unfold dec; simp
theorem dec_at (l : List Int) (i j : Nat) (h : j < l.length) : (dec l i).getD j 0 = l.getD j 0 - (if j = i then 1 else 0) := by
  unfold dec
  by_cases e : j = i
  · subst e; simp [List.getD_eq_getElem?_getD, h]
  · rw [if_neg e]; simp [List.getD_eq_getElem?_getD, List.getElem?_set, Ne.symm e]
/-- the place from which a place comes -/
def sp (p r : Nat) : Nat := if r < p then r else r + 1
theorem wo_len (l : List Int) (p : Nat) (hp : p < l.length) : (wo l p).length = l.length - 1 := by
  unfold wo
  rw [List.length_eraseIdx, dec_len, dec_len, if_pos hp]
theorem wo_at (l : List Int) (p r : Nat) (hp : p < l.length) (hr : r < l.length - 1) : (wo l p).getD r 0 = l.getD (sp p r) 0 - (if sp p r = (p + l.length - 1) % l.length then 1 else 0) - (if sp p r = (p + 1) % l.length then 1 else 0) := by
  unfold wo
  have e : ∀ x : List Int, (x.eraseIdx p).getD r 0 = x.getD (sp p r) 0 := fun x => by
    unfold sp
    simp only [List.getD_eq_getElem?_getD, List.getElem?_eraseIdx]
    split <;> rfl
  have hs : sp p r < l.length := by unfold sp; split <;> omega
  rw [e, dec_at _ _ _ (by rw [dec_len]; exact hs), dec_at _ _ _ hs]
/-- the marks that stay -/
def sk (n p j : Nat) : Nat := (j / (n - 1)) * n + sp p (j % (n - 1))
theorem rd_sk {l : List Int} {p : Nat} (j : Nat) (hn : 2 ≤ l.length) : rd l (sk l.length p j) = l.getD (sp p (j % (l.length - 1))) 0 := by
  unfold rd sk
  have := Nat.mod_lt j (show 0 < l.length - 1 by omega)
  have hs : sp p (j % (l.length - 1)) < l.length := by unfold sp; split <;> omega
  rw [Nat.add_comm, Nat.mul_comm, Nat.add_mul_mod_self_left, Nat.mod_eq_of_lt hs]
theorem sk_step {n p : Nat} (hn : 2 ≤ n) (hp : p < n) (j : Nat) : (sk n p (j + 1) = sk n p j + 1 ∨ (sk n p (j + 1) = sk n p j + 2 ∧ (sk n p j + 1) % n = p)) ∧
    (sk n p (j + 1) = sk n p j + 2 ↔ sp p ((j + 1) % (n - 1)) = (p + 1) % n) ∧ (sk n p (j + 1) = sk n p j + 2 ↔ sp p (j % (n - 1)) = (p + n - 1) % n) := by
  have hm : 0 < n - 1 := by omega
  have hl := Nat.mod_lt j hm
  have key : ∀ q s, s < n → (q * n + s) % n = s := fun q s hs => by rw [Nat.add_comm, Nat.mul_comm, Nat.add_mul_mod_self_left, Nat.mod_eq_of_lt hs]
  have p1 : (p + 1) % n = if p + 1 = n then 0 else p + 1 := by
    split
    · rename_i h; rw [h, Nat.mod_self]
    · rw [Nat.mod_eq_of_lt (by omega)]
  have p2 : (p + n - 1) % n = if p = 0 then n - 1 else p - 1 := by
    split
    · rename_i h; rw [h, Nat.zero_add, Nat.mod_eq_of_lt (by omega)]
    · rw [show p + n - 1 = (p - 1) + n by omega, Nat.add_mod_right, Nat.mod_eq_of_lt (by omega)]
  unfold sk
  rcases step_mod hm j with ⟨h1, h2, h3⟩ | ⟨h1, h2, h3⟩
  · rw [h2, h3]
    generalize j % (n - 1) = r at *
    have k1 := key (j / (n - 1)) p hp
    generalize (j / (n - 1)) * n = X at *
    unfold sp
    rw [p1, p2]
    by_cases c1 : r < p <;> by_cases c2 : r + 1 < p <;> simp only [c1, c2, if_true, if_false]
    · refine ⟨.inl (by omega), ?_, ?_⟩ <;> split <;> omega
    · refine ⟨.inr ⟨by omega, by rw [show X + r + 1 = X + p by omega]; exact k1⟩, ?_, ?_⟩ <;> split <;> omega
    · omega
    · refine ⟨.inl (by omega), ?_, ?_⟩ <;> split <;> omega
  · rw [h2, h3, Nat.add_mul, Nat.one_mul]
    generalize hr : j % (n - 1) = r at *
    have k1 := key (j / (n - 1)) p hp
    have k2 := key (j / (n - 1) + 1) 0 (by omega)
    rw [Nat.add_mul, Nat.one_mul] at k2
    generalize (j / (n - 1)) * n = X at *
    unfold sp
    rw [p1, p2]
    by_cases c1 : r < p <;> by_cases c2 : 0 < p <;> simp only [c1, c2, if_true, if_false]
    · refine ⟨.inr ⟨by omega, by rw [show X + r + 1 = X + p by omega]; exact k1⟩, ?_, ?_⟩ <;> split <;> omega
    · omega
    · refine ⟨.inl (by omega), ?_, ?_⟩ <;> split <;> omega
    · refine ⟨.inr ⟨by omega, by rw [show X + (r + 1) + 1 = X + n + 0 by omega, k2]; omega⟩, ?_, ?_⟩ <;> split <;> omega
theorem rd_wo {l : List Int} {p : Nat} (hp : p < l.length) (hn : 2 ≤ l.length) (j : Nat) : rd (wo l p) j = l.getD (sp p (j % (l.length - 1))) 0 - (if sp p (j % (l.length - 1)) = (p + l.length - 1) % l.length then 1 else 0) - (if sp p (j % (l.length - 1)) = (p + 1) % l.length then 1 else 0) := by
  unfold rd
  rw [wo_len l p hp]
  exact wo_at l p _ hp (Nat.mod_lt _ (by omega))
theorem sub_wo {l : List Int} {p : Nat} (hn : 2 ≤ l.length) (hp : p < l.length) (h1 : l.getD p 0 = 1) : Sub (rd l) (rd (wo l p)) (sk l.length p) where
  gap := fun j => by
    rcases (sk_step hn hp j).1 with h | ⟨h, h2⟩
    · exact .inl h
    · refine .inr ⟨h, ?_⟩
      unfold rd
      rw [h2, h1]
  val := fun j => by
    rw [rd_wo hp hn, rd_sk _ hn]
    have s1 := (sk_step hn hp j).2.1
    have s2 := (sk_step hn hp (j + 1)).2.2
    rw [show (if sk l.length p (j + 1) = sk l.length p j + 2 then (1 : Int) else 0) = if sp p ((j + 1) % (l.length - 1)) = (p + 1) % l.length then 1 else 0 from by simp only [s1]]
    rw [show (if sk l.length p (j + 1 + 1) = sk l.length p (j + 1) + 2 then (1 : Int) else 0) = if sp p ((j + 1) % (l.length - 1)) = (p + l.length - 1) % l.length then 1 else 0 from by simp only [s2]]
    omega
theorem rd_add (l : List Int) (i x : Nat) : rd l (i + l.length + x) = rd l (i + x) := by
  unfold rd
  rw [show i + l.length + x = (i + x) + l.length by omega, Nat.add_mod_right]
theorem en_add (l : List Int) (i k : Nat) : en (rd l) (i + l.length) k = en (rd l) i k := en_shift _ _ _ _ (rd_add l i) k
theorem en_mul (l : List Int) (i k q : Nat) : en (rd l) (i + q * l.length) k = en (rd l) i k := by
  induction q with
  | zero => simp
  | succ q ih => rw [Nat.succ_mul, ← Nat.add_assoc, en_add, ih]
theorem en_mod (l : List Int) (i k : Nat) : en (rd l) (i % l.length) k = en (rd l) i k := by
  have h := en_mul l (i % l.length) k (i / l.length)
  rw [← h, Nat.mul_comm (i / l.length), Nat.mod_add_div]
/-- every mark but those of the one taken out stays -/
theorem sk_onto {n p : Nat} (hn : 2 ≤ n) (hp : p < n) (x : Nat) (h : x % n ≠ p) : ∃ j, sk n p j = x := by
  have hx := Nat.mod_lt x (show 0 < n by omega)
  have hd := Nat.div_add_mod x n
  have hm : 0 < n - 1 := by omega
  have key : ∀ r, r < n - 1 → sp p r = x % n → ∃ j, sk n p j = x := fun r hr e => by
    refine ⟨r + (n - 1) * (x / n), ?_⟩
    unfold sk
    rw [Nat.add_mul_mod_self_left, Nat.mod_eq_of_lt hr, Nat.add_mul_div_left _ _ hm, Nat.div_eq_of_lt hr, Nat.zero_add, e, Nat.mul_comm]
    exact hd
  by_cases c : x % n < p
  · exact key (x % n) (by omega) (by unfold sp; rw [if_pos c])
  · exact key (x % n - 1) (by omega) (by unfold sp; rw [if_neg (by omega)]; omega)
/-- .. at the one: the sum of both beside it -/
theorem en_one (a : Nat → Int) (u k : Nat) (h : a (u + k + 1) = 1) : en a u (k + 1) = en a u k + en a u (k + 2) := by
  rw [en_two, h]; grind
theorem en_oneL (a : Nat → Int) (u k : Nat) (h : a (u + 1) = 1) : en a (u + 1) (k + 1) = en a u (k + 2) + en a (u + 2) k := by
  rw [en_left, h]; grind
theorem pos_wo {l : List Int} {p : Nat} (hn : 2 ≤ l.length) (hp : p < l.length) (h1 : l.getD p 0 = 1) (P : Pos (rd (wo l p))) : Pos (rd l) := by
  have S := sub_wo hn hp h1
  have one : ∀ x, x % l.length = p → rd l x = 1 := fun x e => by unfold rd; rw [e, h1]
  have nx : ∀ x, x % l.length = p → (x + 1) % l.length ≠ p := fun x e q => by
    rcases step_mod (show 0 < l.length by omega) x with ⟨_, h, _⟩ | ⟨_, h, _⟩ <;> omega
  have pv : ∀ x, (x + 1) % l.length = p → x % l.length ≠ p := fun x e q => nx x q e
  have inv : ∀ i j, sk l.length p i < sk l.length p j → i < j := fun i j h => by
    rcases Nat.lt_or_ge i j with c | c
    · exact c
    · have := S.mono j (i - j)
      rw [show j + (i - j) = i by omega] at this
      omega
  -- between marks that stay
  have both : ∀ u k, u % l.length ≠ p → (u + k + 1) % l.length ≠ p → 0 < en (rd l) u (k + 1) := fun u k hu hv => by
    obtain ⟨i, hi⟩ := sk_onto hn hp u hu
    obtain ⟨j, hj⟩ := sk_onto hn hp (u + k + 1) hv
    have lt := inv i j (by omega)
    have e := S.entry i (j - i)
    rw [show i + (j - i) = j by omega, hi, hj, show u + k + 1 - u = k + 1 by omega] at e
    rw [← e]
    obtain ⟨d, hd⟩ : ∃ d, j - i = d + 1 := ⟨j - i - 1, by omega⟩
    rw [hd]
    exact P i d
  have bothLe : ∀ u k, u % l.length ≠ p → (u + k) % l.length ≠ p → 0 ≤ en (rd l) u k := fun u k hu hv => by
    cases k with
    | zero => exact Int.le_refl _
    | succ k => exact Int.le_of_lt (both u k hu hv)
  -- from a mark that stays
  have left : ∀ u k, u % l.length ≠ p → 0 < en (rd l) u (k + 1) := fun u k hu => by
    by_cases hv : (u + k + 1) % l.length = p
    · have := en_one (rd l) u k (one _ hv)
      have h2 : 0 < en (rd l) u (k + 2) := both u (k + 1) hu (nx _ hv)
      have h3 := bothLe u k hu (pv _ hv)
      omega
    · exact both u k hu hv
  intro u k
  by_cases hu : u % l.length = p
  · -- one round on
    rw [← en_add]
    obtain ⟨v, hv⟩ : ∃ v, u + l.length = v + 1 := ⟨u + l.length - 1, by omega⟩
    have hm : (v + 1) % l.length = p := by rw [← hv, Nat.add_mod_right]; exact hu
    rw [hv]
    have := en_oneL (rd l) v k (one _ hm)
    have h2 : 0 < en (rd l) v (k + 2) := left v (k + 1) (pv _ hm)
    have h3 : 0 ≤ en (rd l) (v + 2) k := by
      cases k with
      | zero => exact Int.le_refl _
      | succ k => exact Int.le_of_lt (left (v + 2) k (nx _ hm))
    omega
  · exact left u k hu
/-! ### the trace -/
def tr (a : Nat → Int) (n i : Nat) : Int := en a i (n + 1) - en a (i + 1) (n - 1)
theorem tr_step {a : Nat → Int} {n : Nat} (hn : 1 ≤ n) (per : ∀ x, a (x + n) = a x) (i : Nat) : tr a n (i + 1) = tr a n i := by
  obtain ⟨m, rfl⟩ : ∃ m, n = m + 1 := ⟨n - 1, by omega⟩
  unfold tr
  rw [show m + 1 - 1 = m from rfl, en_two a (i + 1) m, en_left a m i, show i + 1 + m + 1 = i + 1 + (m + 1) by omega, per]
  rw [show i + 1 + 1 = i + 2 from rfl]
  omega
theorem tr_zero {a : Nat → Int} {n : Nat} (hn : 1 ≤ n) (per : ∀ x, a (x + n) = a x) : ∀ i, tr a n i = tr a n 0
  | 0 => rfl
  | i + 1 => by rw [tr_step hn per, tr_zero hn per i]
theorem rd_per (l : List Int) (x : Nat) : rd l (x + l.length) = rd l x := by
  unfold rd; rw [Nat.add_mod_right]
theorem sk_round {n p : Nat} (hn : 2 ≤ n) (j : Nat) : sk n p (j + (n - 1)) = sk n p j + n := by
  unfold sk
  rw [Nat.add_mod_right, Nat.add_div_right _ (by omega), Nat.add_mul, Nat.one_mul]
  omega
theorem tr_wo {l : List Int} {p : Nat} (hn : 2 ≤ l.length) (hp : p < l.length) (h1 : l.getD p 0 = 1) : tr (rd (wo l p)) (l.length - 1) 0 = tr (rd l) l.length 0 := by
  have S := sub_wo hn hp h1
  have per1 : ∀ x, rd (wo l p) (x + (l.length - 1)) = rd (wo l p) x := fun x => by rw [← wo_len l p hp]; exact rd_per _ x
  rcases Nat.lt_or_ge 2 l.length with h3 | h3
  · -- a mark behind which nothing was taken out
    obtain ⟨i, hi⟩ : ∃ i, sk l.length p (i + 1) = sk l.length p i + 1 := by
      rcases (sk_step hn hp 0).1 with h | ⟨h, h2⟩
      · exact ⟨0, h⟩
      · rcases (sk_step hn hp 1).1 with h' | ⟨h', h2'⟩
        · exact ⟨1, h'⟩
        · rw [show sk l.length p 1 = sk l.length p 0 + 2 from h] at h2'
          exfalso
          have a1 := step_mod (show 0 < l.length by omega) (sk l.length p 0 + 1)
          have a2 := step_mod (show 0 < l.length by omega) (sk l.length p 0 + 1 + 1)
          rw [show sk l.length p 0 + 2 + 1 = sk l.length p 0 + 1 + 1 + 1 by omega] at h2'
          omega
    rw [← tr_zero (by omega) per1 i, ← tr_zero (a := rd l) (by omega) (rd_per l) (sk l.length p i)]
    unfold tr
    have e1 := S.entry i (l.length - 1 + 1)
    have e2 := S.entry (i + 1) (l.length - 1 - 1)
    rw [show i + (l.length - 1 + 1) = (i + 1) + (l.length - 1) by omega, sk_round hn, hi] at e1
    rw [show i + 1 + (l.length - 1 - 1) = i + (l.length - 1) by omega, sk_round hn, hi] at e2
    rw [e1, e2, show sk l.length p i + 1 + l.length - sk l.length p i = l.length + 1 by omega, show sk l.length p i + l.length - (sk l.length p i + 1) = l.length - 1 by omega]
  · have h2 : l.length = 2 := by omega
    have v := S.val 0
    have g0 := (sk_step hn hp 0).1
    have g1 := (sk_step hn hp 1).1
    rw [← tr_zero (a := rd l) (by omega) (rd_per l) (sk l.length p 0), h2]
    have r1 := sk_round (n := l.length) (p := p) hn 0
    have r2 := sk_round (n := l.length) (p := p) hn 1
    rw [h2] at r1 r2 v
    simp only [Nat.zero_add, Nat.reduceSub, Nat.reduceAdd] at r1 r2
    rw [r1, r2, r1] at v
    simp only [Nat.zero_add, Nat.reduceSub, Nat.reduceAdd, if_true, r1] at v
    unfold tr
    show en (rd (wo l p)) 0 2 - en (rd (wo l p)) 1 0 = en (rd l) (sk 2 p 0) 3 - en (rd l) (sk 2 p 0 + 1) 1
    have ea : rd l (sk 2 p 0 + 1) = 1 := by
      have g := S.gap 0
      rw [h2, Nat.zero_add, r1] at g
      rcases g with g | ⟨_, g⟩
      · omega
      · exact g
    simp only [en_two, en, Nat.zero_add, Nat.add_zero, v, ea]
    rw [show sk 2 p 0 + 1 + 1 = sk 2 p 0 + 2 from rfl]
    omega
theorem en_leftmono {a : Nat → Int} (h : ∀ j, 2 ≤ a (j + 1)) : ∀ k i, en a (i + 1) k < en a i (k + 1)
  | 0, i => by simp [en]
  | k + 1, i => by
    have ih := en_leftmono h k (i + 1)
    rw [en_left]
    have h2 := h i
    have h3 := (pos_of_two h (i + 1) (k + 1)).2
    have : 2 * en a (i + 1) (k + 1) ≤ a (i + 1) * en a (i + 1) (k + 1) := Int.mul_le_mul_of_nonneg_right h2 h3
    rw [show i + 1 + 1 = i + 2 from rfl] at ih
    omega
theorem tr_two {a : Nat → Int} (h : ∀ j, 2 ≤ a (j + 1)) {n : Nat} (hn : 1 ≤ n) : 2 ≤ tr a n 0 := by
  unfold tr
  obtain ⟨m, rfl⟩ : ∃ m, n = m + 1 := ⟨n - 1, by omega⟩
  have h1 := (pos_of_two h 0 (m + 1)).1
  have h2 := en_leftmono h m 0
  rw [show m + 1 - 1 = m from rfl]
  omega
/-- as the law reckons it -/
def trL (l : List Int) : Int × Int × Int × Int := l.foldl (fun s x => (s.1 * x + s.2.1, 0 - s.1, s.2.2.1 * x + s.2.2.2, 0 - s.2.2.1)) (1, 0, 0, 1)
theorem trL_at (l : List Int) : ∀ k, k < l.length → trL (l.take (k + 1)) = (en (rd l) (l.length - 1) (k + 2), - en (rd l) (l.length - 1) (k + 1), en (rd l) l.length (k + 1), - en (rd l) l.length k)
  | 0, h => by
    cases l with
    | nil => cases h
    | cons x l =>
      have e : rd (x :: l) (l.length + 1) = x := by unfold rd; simp
      simp [trL, en, e]
  | k + 1, h => by
    have ih := trL_at l k (by omega)
    have e : l.take (k + 1 + 1) = l.take (k + 1) ++ [l.getD (k + 1) 0] := by
      rw [List.take_add_one]; simp [List.getD_eq_getElem?_getD, List.getElem?_eq_getElem h]
    have e2 : rd l (l.length - 1 + (k + 1) + 1) = l.getD (k + 1) 0 := by
      unfold rd
      rw [show l.length - 1 + (k + 1) + 1 = (k + 1) + l.length by omega, Nat.add_mod_right, Nat.mod_eq_of_lt h]
    have e3 : rd l (l.length + k + 1) = l.getD (k + 1) 0 := by
      unfold rd
      rw [show l.length + k + 1 = (k + 1) + l.length by omega, Nat.add_mod_right, Nat.mod_eq_of_lt h]
    unfold trL at ih ⊢
    rw [e, List.foldl_append, ih]
    simp only [List.foldl_cons, List.foldl_nil]
    rw [en_two (rd l) (l.length - 1) (k + 1), en_two (rd l) l.length k, e2, e3]
    refine Prod.ext ?_ (Prod.ext ?_ (Prod.ext ?_ ?_)) <;> simp only [] <;> grind
theorem trL_all (l : List Int) (h : 1 ≤ l.length) : (trL l).1 + (trL l).2.2.2 = tr (rd l) l.length 0 := by
  have e := trL_at l (l.length - 1) (by omega)
  rw [show l.length - 1 + 1 = l.length by omega, List.take_length] at e
  rw [e, ← tr_zero h (rd_per l) (l.length - 1)]
  unfold tr
  rw [show l.length - 1 + 2 = l.length + 1 by omega, show l.length - 1 + 1 = l.length by omega]
  rfl
/-! ### sizes -/
theorem en_size {a : Nat → Int} {B : Nat} (h : ∀ j, (a j).natAbs ≤ B) (i : Nat) : ∀ k, (en a i (k + 1)).natAbs ≤ (B + 1) ^ k ∧ (en a i k).natAbs ≤ (B + 1) ^ k
  | 0 => by simp [en]
  | k + 1 => by
    have ih := en_size h i k
    have e : (B + 1) ^ (k + 1) = B * (B + 1) ^ k + (B + 1) ^ k := by rw [Nat.pow_succ, Nat.mul_add, Nat.mul_one, Nat.mul_comm]
    refine ⟨?_, ?_⟩
    · rw [en_two]
      have h1 : (a (i + k + 1) * en a i (k + 1)).natAbs ≤ B * (B + 1) ^ k := by
        rw [Int.natAbs_mul]
        exact Nat.mul_le_mul (h _) ih.1
      omega
    · have := Nat.zero_le (B * (B + 1) ^ k)
      omega
/-! ### the least item, its place -/
def mn : List Int → Int
  | [] => 0
  | x :: r => r.foldl min x
theorem foldl_min (r : List Int) : ∀ x, r.foldl min x ≤ x ∧ (∀ y ∈ r, r.foldl min x ≤ y) ∧ (r.foldl min x = x ∨ r.foldl min x ∈ r) := by
  induction r with
  | nil => intro x; simp
  | cons y r ih =>
    intro x
    obtain ⟨h1, h2, h3⟩ := ih (min x y)
    rw [List.foldl_cons]
    have l1 : min x y ≤ x := by omega
    have l2 : min x y ≤ y := by omega
    refine ⟨by omega, fun z hz => ?_, ?_⟩
    · rcases List.mem_cons.mp hz with rfl | hz
      · omega
      · exact h2 z hz
    · rcases h3 with h | h
      · rw [h]
        rcases Int.le_total x y with c | c
        · left; omega
        · right; rw [show min x y = y by omega]; exact List.mem_cons_self
      · right; exact List.mem_cons_of_mem _ h
theorem mn_le {l : List Int} {x : Int} (h : x ∈ l) : mn l ≤ x := by
  cases l with
  | nil => cases h
  | cons y r =>
    obtain ⟨h1, h2, _⟩ := foldl_min r y
    rcases List.mem_cons.mp h with rfl | h
    · exact h1
    · exact h2 x h
theorem mn_mem {l : List Int} (h : l ≠ []) : mn l ∈ l := by
  cases l with
  | nil => exact absurd rfl h
  | cons y r =>
    obtain ⟨_, _, h3⟩ := foldl_min r y
    rcases h3 with h | h
    · show r.foldl min y ∈ _
      rw [h]; exact List.mem_cons_self
    · exact List.mem_cons_of_mem _ h
theorem getD_mem {l : List Int} {i : Nat} (h : i < l.length) : l.getD i 0 ∈ l := by
  rw [List.getD_eq_getElem?_getD, List.getElem?_eq_getElem h]; exact List.getElem_mem h
def ix (l : List Int) (x : Int) : Nat := l.findIdx (· == x)
theorem ix_lt {l : List Int} {x : Int} (h : x ∈ l) : ix l x < l.length := List.findIdx_lt_length_of_exists ⟨x, h, by simp⟩
theorem ix_at {l : List Int} {x : Int} (h : x ∈ l) : l.getD (ix l x) 0 = x := by
  have := List.findIdx_getElem (w := ix_lt h)
  rw [List.getD_eq_getElem?_getD, List.getElem?_eq_getElem (ix_lt h)]
  have e : l[List.findIdx (fun y => y == x) l]'(ix_lt h) = x := by simpa using this
  exact e
/-! ### ones taken out again and again -/
def lf : Nat → List Nat → List Int → List Nat → List Nat × List Int × List Nat
  | 0, ms, row, st => (ms, row, st)
  | f + 1, ms, row, st => if mn row = 1 ∧ 1 < row.length then lf f (ms.eraseIdx (ix row 1)) (wo row (ix row 1)) (st ++ [ix row 1]) else (ms, row, st)
/-- the marks of what is left, read round -/
def ph (n : Nat) (ms : List Nat) (j : Nat) : Nat := (j / ms.length) * n + ms.getD (j % ms.length) 0
/-- what a judge does with the places -/
def rp : List Int → List Nat → Option (List Int)
  | row, [] => some row
  | row, p :: r => if p < row.length ∧ row.length ≠ 1 ∧ row.getD p 0 = 1 then rp (wo row p) r else none
theorem rp_app {row row' : List Int} {st : List Nat} {p : Nat} (h : rp row st = some row') (hp : p < row'.length ∧ row'.length ≠ 1 ∧ row'.getD p 0 = 1) : rp row (st ++ [p]) = some (wo row' p) := by
  induction st generalizing row with
  | nil =>
    cases h
    show (if _ then _ else _) = _
    rw [if_pos hp]; rfl
  | cons q st ih =>
    rw [List.cons_append]
    unfold rp at h ⊢
    split at h
    · rename_i c
      rw [if_pos c]; exact ih h
    · cases h
structure Inv (ns : List Int) (ms : List Nat) (row : List Int) (st : List Nat) : Prop where
  len : ms.length = row.length
  one : 1 ≤ row.length
  le : row.length + st.length = ns.length
  lt : ∀ x ∈ ms, x < ns.length
  ent : ∀ i k, en (rd row) i k = en (rd ns) (ph ns.length ms i) (ph ns.length ms (i + k) - ph ns.length ms i)
  mono : ∀ i, ph ns.length ms i < ph ns.length ms (i + 1)
  pos : Pos (rd row) → Pos (rd ns)
  trc : tr (rd row) row.length 0 = tr (rd ns) ns.length 0
  play : rp ns st = some row
theorem Inv.start {ns : List Int} (h : 1 ≤ ns.length) : Inv ns (List.range ns.length) ns [] := by
  have e : ∀ j, ph ns.length (List.range ns.length) j = j := fun j => by
    unfold ph
    have := Nat.mod_lt j h
    rw [List.length_range, List.getD_eq_getElem?_getD, List.getElem?_range (by simpa using this), Option.getD_some, Nat.mul_comm]
    exact Nat.div_add_mod j _
  refine ⟨by simp, h, by simp, fun x hx => by simpa using hx, fun i k => ?_, fun i => ?_, fun p => p, rfl, rfl⟩
  · rw [e, e]; congr 1; omega
  · rw [e, e]; omega
theorem ph_sk {n p : Nat} {ms : List Nat} (h2 : 2 ≤ ms.length) (hp : p < ms.length) (j : Nat) : ph n (ms.eraseIdx p) j = ph n ms (sk ms.length p j) := by
  unfold ph sk
  have hl : (ms.eraseIdx p).length = ms.length - 1 := by rw [List.length_eraseIdx, if_pos hp]
  rw [hl]
  have hr := Nat.mod_lt j (show 0 < ms.length - 1 by omega)
  have hs : sp p (j % (ms.length - 1)) < ms.length := by unfold sp; split <;> omega
  rw [Nat.add_comm (j / (ms.length - 1) * ms.length), Nat.mul_comm _ ms.length, Nat.add_mul_div_left _ _ (by omega), Nat.add_mul_mod_self_left, Nat.div_eq_of_lt hs, Nat.mod_eq_of_lt hs, Nat.zero_add]
  congr 1
  unfold sp
  simp only [List.getD_eq_getElem?_getD, List.getElem?_eraseIdx]
  split <;> rfl
theorem Inv.step {ns row : List Int} {ms st : List Nat} (I : Inv ns ms row st) (h1 : mn row = 1) (h2 : 1 < row.length) : Inv ns (ms.eraseIdx (ix row 1)) (wo row (ix row 1)) (st ++ [ix row 1]) := by
  have mem : (1 : Int) ∈ row := by
    rw [← h1]; exact mn_mem (by intro e; rw [e] at h2; simp at h2)
  have hp := ix_lt mem
  have ha := ix_at mem
  generalize ix row 1 = p at *
  have hpm : p < ms.length := by rw [I.len]; exact hp
  have S := sub_wo h2 hp ha
  have up : ∀ i k, ph ns.length ms i + k ≤ ph ns.length ms (i + k) := fun i k => by
    induction k with
    | zero => exact Nat.le_refl _
    | succ k ih => have := I.mono (i + k); rw [show i + (k + 1) = i + k + 1 from rfl]; omega
  have eS : ∀ j, ph ns.length (ms.eraseIdx p) j = ph ns.length ms (sk row.length p j) := fun j => by rw [← I.len]; exact ph_sk (by rw [I.len]; exact h2) hpm j
  refine ⟨?_, ?_, ?_, fun x hx => I.lt x (List.mem_of_mem_eraseIdx hx), fun i k => ?_, fun i => ?_, fun P => I.pos (pos_wo h2 hp ha P), ?_, rp_app I.play ⟨hp, by omega, ha⟩⟩
  · rw [List.length_eraseIdx, if_pos hpm, wo_len _ _ hp, I.len]
  · rw [wo_len _ _ hp]; omega
  · rw [wo_len _ _ hp, List.length_append]; have := I.le; simp; omega
  · rw [S.entry i k, I.ent, eS, eS]
    have m := S.mono i k
    rw [show sk row.length p i + (sk row.length p (i + k) - sk row.length p i) = sk row.length p (i + k) by omega]
  · rw [eS, eS]
    have m := S.mono i 1
    have := up (sk row.length p i) (sk row.length p (i + 1) - sk row.length p i)
    rw [show sk row.length p i + (sk row.length p (i + 1) - sk row.length p i) = sk row.length p (i + 1) by omega] at this
    omega
  · rw [wo_len _ _ hp, tr_wo h2 hp ha, I.trc]
/-- what is left in the end -/
theorem lf_end {ns : List Int} : ∀ (f : Nat) (ms : List Nat) (row : List Int) (st : List Nat), Inv ns ms row st → row.length ≤ f + 1 → Inv ns (lf f ms row st).1 (lf f ms row st).2.1 (lf f ms row st).2.2 ∧ ¬ (mn (lf f ms row st).2.1 = 1 ∧ 1 < (lf f ms row st).2.1.length)
  | 0, ms, row, st, I, h => ⟨I, fun c => by have := c.2; simp only [lf] at this; omega⟩
  | f + 1, ms, row, st, I, h => by
    unfold lf
    by_cases c : mn row = 1 ∧ 1 < row.length
    · rw [if_pos c]
      have I' := I.step c.1 c.2
      have hp : ix row 1 < row.length := ix_lt (by rw [← c.1]; exact mn_mem (by intro e; rw [e] at c; simp at c))
      exact lf_end f _ _ _ I' (by rw [wo_len _ _ hp]; omega)
    · rw [if_neg c]; exact ⟨I, c⟩
/-- the least one above 1: endless -/
theorem Inv.endless {ns row : List Int} {ms st : List Nat} (I : Inv ns ms row st) (h : 1 < mn row) : Pos (rd ns) ∧ 2 ≤ tr (rd ns) ns.length 0 := by
  have two : ∀ j, 2 ≤ rd row (j + 1) := fun j => by
    have := mn_le (getD_mem (Nat.mod_lt (j + 1) I.one))
    unfold rd; omega
  exact ⟨I.pos (pos_two two), by rw [← I.trc]; exact tr_two two I.one⟩
theorem ph_round {n : Nat} {ms : List Nat} (h : 1 ≤ ms.length) (j : Nat) : ph n ms (j + ms.length) = ph n ms j + n := by
  unfold ph
  rw [Nat.add_mod_right, Nat.add_div_right _ h, Nat.add_mul, Nat.one_mul]
  omega
/-- otherwise an entry below 1 -/
theorem Inv.ends {ns row : List Int} {ms st : List Nat} (I : Inv ns ms row st) (c : ¬ (mn row = 1 ∧ 1 < row.length)) (h : mn row ≤ 1) :
    (mn row = 1 ∧ row.length = 1 ∧ en (rd ns) (ms.getD 0 0) (3 * ns.length) = 0 ∧ ms.getD 0 0 < ns.length) ∨
    (mn row < 1 ∧ ∃ d, 2 ≤ d ∧ d ≤ 2 * ns.length ∧ ph ns.length ms (ix row (mn row) + row.length + 1) = ph ns.length ms (ix row (mn row) + row.length - 1) + d ∧ en (rd ns) (ph ns.length ms (ix row (mn row) + row.length - 1)) d = mn row) := by
  have ne : row ≠ [] := by intro e; have := I.one; rw [e] at this; simp at this
  by_cases h1 : mn row = 1
  · left
    have l1 : row.length = 1 := by have := I.one; omega
    have m1 : ms.length = 1 := by rw [I.len, l1]
    have e := I.ent 0 3
    have pz : ph ns.length ms 0 = ms.getD 0 0 := by unfold ph; rw [m1]; simp
    have p3 : ph ns.length ms (0 + 3) = ms.getD 0 0 + 3 * ns.length := by unfold ph; rw [m1]; simp; omega
    rw [pz, p3, Nat.add_sub_cancel_left] at e
    refine ⟨h1, l1, ?_, ?_⟩
    · rw [← e]
      have r1 : ∀ j, rd row j = 1 := fun j => by
        unfold rd
        rw [l1, Nat.mod_one]
        match row, l1, h1 with
        | [x], _, h1 => exact h1
      simp [en, r1]
    · refine I.lt _ ?_
      match ms, m1 with
      | [x], _ => simp
  · right
    have lt : mn row < 1 := by omega
    have mem := mn_mem ne
    have hp := ix_lt mem
    have ha := ix_at mem
    generalize ix row (mn row) = p at *
    have m0 := I.mono (p + row.length - 1)
    have m1 := I.mono (p + row.length - 1 + 1)
    rw [show p + row.length - 1 + 1 = p + row.length by omega] at m0 m1
    have e := I.ent (p + row.length - 1) 2
    rw [show p + row.length - 1 + 2 = p + row.length + 1 by omega] at e
    have one := I.one
    refine ⟨lt, ph ns.length ms (p + row.length + 1) - ph ns.length ms (p + row.length - 1), by omega, ?_, by omega, ?_⟩
    · have r1 := ph_round (n := ns.length) (ms := ms) (by rw [I.len]; exact one) (p + row.length - 1)
      have up : ∀ i k, ph ns.length ms i + k ≤ ph ns.length ms (i + k) := fun i k => by
        induction k with
        | zero => exact Nat.le_refl _
        | succ k ih => have := I.mono (i + k); rw [show i + (k + 1) = i + k + 1 from rfl]; omega
      rw [I.len] at r1
      rcases Nat.lt_or_ge row.length 2 with l | l
      · have r2 := ph_round (n := ns.length) (ms := ms) (by rw [I.len]; exact one) (p + row.length - 1 + row.length)
        rw [I.len] at r2
        rw [show p + row.length - 1 + row.length + row.length = p + row.length + 1 by omega] at r2
        omega
      · have := up (p + row.length + 1) (row.length - 2)
        rw [show p + row.length + 1 + (row.length - 2) = p + row.length - 1 + row.length by omega] at this
        omega
    · rw [← e]
      have : rd row (p + row.length - 1 + 1) = mn row := by
        unfold rd
        rw [show p + row.length - 1 + 1 = p + row.length by omega, Nat.add_mod_right, Nat.mod_eq_of_lt hp, ha]
      simp [en, this]
/-- the marks beside the least one -/
theorem Inv.beside {ns row : List Int} {ms st : List Nat} (I : Inv ns ms row st) (h : mn row < 1) : ∃ d, 2 ≤ d ∧ d ≤ 2 * ns.length ∧
    let p := ix row (mn row); let m := row.length; let B := ms.getD ((p + m - 1) % m) 0; let C := ms.getD p 0; let F := ms.getD ((p + 1) % m) 0
    p < m ∧ B < ns.length ∧ C < ns.length ∧ F < ns.length ∧ en (rd ns) B d = mn row ∧
    ((C ≤ B ∧ ((F ≤ C ∧ B + d = 2 * ns.length + F) ∨ (C < F ∧ B + d = ns.length + F))) ∨ (B < C ∧ ((F ≤ C ∧ B + d = ns.length + F) ∨ (C < F ∧ B + d = F)))) := by
  rcases I.ends (fun c => by omega) (by omega) with ⟨h1, _⟩ | ⟨_, d, d2, dn, e1, e2⟩
  · omega
  refine ⟨d, d2, dn, ?_⟩
  have one := I.one
  have ne : row ≠ [] := by intro e; rw [e] at one; simp at one
  have hp := ix_lt (mn_mem ne)
  have lm := I.len
  have lt : ∀ i, i < row.length → ms.getD i 0 < ns.length := fun i hi => by
    refine I.lt _ ?_
    rw [List.getD_eq_getElem?_getD, List.getElem?_eq_getElem (by omega)]; exact List.getElem_mem (by omega)
  have up : ∀ i k, ph ns.length ms i + k ≤ ph ns.length ms (i + k) := fun i k => by
    induction k with
    | zero => exact Nat.le_refl _
    | succ k ih => have := I.mono (i + k); rw [show i + (k + 1) = i + k + 1 from rfl]; omega
  generalize ix row (mn row) = p at *
  generalize hm : row.length = m at *
  have lo : ∀ i, i < m → ph ns.length ms i = ms.getD i 0 := fun i hi => by
    unfold ph; rw [lm, Nat.div_eq_of_lt hi, Nat.mod_eq_of_lt hi]; omega
  have hi : ∀ i, i < m → ph ns.length ms (i + m) = ns.length + ms.getD i 0 := fun i hi => by
    have := ph_round (n := ns.length) (ms := ms) (by omega) i
    rw [lm] at this; rw [this, lo i hi]; omega
  have hh : ∀ i, i < m → ph ns.length ms (i + m + m) = 2 * ns.length + ms.getD i 0 := fun i h' => by
    have := ph_round (n := ns.length) (ms := ms) (by omega) (i + m)
    rw [lm] at this; rw [this, hi i h']; omega
  simp only []
  -- behind
  have F1 : (p + 1 < m ∧ ph ns.length ms (p + m + 1) = ns.length + ms.getD ((p + 1) % m) 0 ∧ ms.getD p 0 < ms.getD ((p + 1) % m) 0) ∨ (ph ns.length ms (p + m + 1) = 2 * ns.length + ms.getD ((p + 1) % m) 0 ∧ ms.getD ((p + 1) % m) 0 ≤ ms.getD p 0) := by
    rcases Nat.lt_or_ge (p + 1) m with c | c
    · left
      rw [Nat.mod_eq_of_lt c]
      have := I.mono p
      rw [lo p hp, lo (p + 1) c] at this
      refine ⟨c, ?_, this⟩
      rw [show p + m + 1 = p + 1 + m by omega, hi _ c]
    · right
      have e : p + 1 = m := by omega
      rw [e, Nat.mod_self]
      have := up 0 p
      rw [Nat.zero_add, lo p hp, lo 0 (by omega)] at this
      refine ⟨?_, by omega⟩
      rw [show p + m + 1 = 0 + m + m by omega, hh 0 (by omega)]
  -- ahead
  have B1 : (ph ns.length ms (p + m - 1) = ms.getD ((p + m - 1) % m) 0 ∧ ms.getD p 0 ≤ ms.getD ((p + m - 1) % m) 0) ∨ (ph ns.length ms (p + m - 1) = ns.length + ms.getD ((p + m - 1) % m) 0 ∧ ms.getD ((p + m - 1) % m) 0 < ms.getD p 0) := by
    rcases Nat.eq_zero_or_pos p with c | c
    · left
      subst c
      rw [Nat.zero_add, Nat.mod_eq_of_lt (by omega), lo _ (by omega)]
      have := up 0 (m - 1)
      rw [Nat.zero_add, lo 0 (by omega), lo (m - 1) (by omega)] at this
      exact ⟨rfl, by omega⟩
    · right
      have e : p + m - 1 = (p - 1) + m := by omega
      rw [e, Nat.add_mod_right, Nat.mod_eq_of_lt (by omega), hi _ (by omega)]
      have := I.mono (p - 1)
      rw [show p - 1 + 1 = p by omega, lo p hp, lo _ (by omega)] at this
      exact ⟨rfl, this⟩
  have b1 := lt ((p + m - 1) % m) (Nat.mod_lt _ (by omega))
  have b2 := lt p hp
  have b3 := lt ((p + 1) % m) (Nat.mod_lt _ (by omega))
  refine ⟨hp, b1, b2, b3, ?_, ?_⟩
  · rcases B1 with ⟨q, _⟩ | ⟨q, _⟩
    · rw [q] at e2; exact e2
    · rw [q, Nat.add_comm, en_add] at e2; exact e2
  · omega
theorem wo_bd {l : List Int} {p B : Nat} (hp : p < l.length) (h : ∀ x ∈ l, x.natAbs ≤ B) : ∀ x ∈ wo l p, x.natAbs ≤ B + 2 := fun x hx => by
  obtain ⟨r, hr, rfl⟩ := List.getElem_of_mem hx
  have hl := wo_len l p hp
  have e := wo_at l p r hp (by omega)
  rw [List.getD_eq_getElem?_getD, List.getElem?_eq_getElem hr, Option.getD_some] at e
  have hs : sp p r < l.length := by unfold sp; split <;> omega
  have b := h _ (getD_mem hs)
  rw [e]
  split <;> split <;> omega
theorem lf_bd {B : Nat} : ∀ (f : Nat) (ms : List Nat) (row : List Int) (st : List Nat), (∀ x ∈ row, x.natAbs ≤ B) → ∀ x ∈ (lf f ms row st).2.1, x.natAbs ≤ B + 2 * f
  | 0, ms, row, st, h => fun x hx => by have := h x hx; omega
  | f + 1, ms, row, st, h => fun x hx => by
    unfold lf at hx
    by_cases c : mn row = 1 ∧ 1 < row.length
    · rw [if_pos c] at hx
      have hp : ix row 1 < row.length := ix_lt (by rw [← c.1]; exact mn_mem (by intro e; rw [e] at c; simp at c))
      have ih := lf_bd (B := B + 2) f (ms.eraseIdx (ix row 1)) (wo row (ix row 1)) (st ++ [ix row 1]) (wo_bd hp h) x hx
      omega
    · rw [if_neg c] at hx
      have := h x hx; omega
theorem en_lim {a : Nat → Int} (h : ∀ j, (a j).natAbs ≤ 1000) (i k : Nat) : (en a i k).natAbs < 2 ^ (10 * k + 1) := by
  have h1 := (en_size h i k).2
  have h2 : (1000 + 1) ^ k ≤ 1024 ^ k := Nat.pow_le_pow_left (by omega) k
  have h3 : (1024 : Nat) ^ k = 2 ^ (10 * k) := by rw [Nat.pow_mul]
  have h4 : 0 < 2 ^ (10 * k) := Nat.pow_pos (by decide)
  have h5 : 2 ^ (10 * k + 1) = 2 ^ (10 * k) * 2 := Nat.pow_succ ..
  omega
end K60

/-! K60P -/
set_option Elab.async false
set_option linter.all false
set_option maxRecDepth 100000
set_option maxHeartbeats 1000000
namespace K60
open PySem Dn
local macro_rules
  | `(tactic| wp_walk) => `(tactic| simp only [W_ok, W_err, WR_ok, WR_err, WO_some, WI_true, WI_false, W_bnd, W_ret, W_lft, slot_some, W_var, W_lit, W_un, W_bin, W_app, W_itV, W_itA, W_nilA, W_consA, W_tupE, W_lstE, W_test, W_testB, W_notT, W_andT, W_orT, W_andV, W_orV, W_notV, W_ifE, W_chn, W_sliU, W_noPart, W_part, W_sq, W_nx, W_asg, W_drp, W_rtn, W_ifS, W_rai, W_fgt, forget_nil, forget_cons, restore_nil, restore_cons, List.getD_cons_zero, List.getD_cons_succ, W_brkS, W_cntS, W_asgL, setE_cons, setE_nil, setE_nil', W_asgT, W_tgN, W_tgT, W_tgs_nil, W_tgs_cons, W_chk, W_updI, W_appS, W_setS, W_setS2, W_augS, W_putS, W_popM, W_popE, W_popAtE, W_idxE, W_lrgE, W_pairs_nil, W_pairs_cons, W_dispE, W_callE, W_callK, W_callIO, W_tryS, W_forS, W_lcT, W_noT, List.getElem?_cons_zero, List.getElem?_cons_succ, List.getElem?_nil, List.set_cons_zero, List.set_cons_succ, List.length_cons, List.length_nil, List.append_nil, List.nil_append, List.cons_append, Nat.reduceAdd, Nat.zero_add, Nat.reduceSub, Nat.reduceLeDiff, Nat.reduceLT, Nat.reduceEqDiff, addU_int, addU_str, addU_tup, addU_lst, catL_lst, addI_int, subI_int, mulI_int, mulU_int, mulU_tup, repL_lst, fdivI_int, modI_int, powI_int, negD_int, ltI_int, leI_int, gtI_int, geI_int, isN_none, isN_bool, isN_int, isN_str, isN_lst, isN_tup, notN_none, notN_bool, notN_int, notN_str, notN_lst, notN_tup, truth_none, truth_bool, truth_int, truth_lst, truth_tup, boolOf_bool, intOf_int, tupleD_lst, tupleD_tup, listD_lst, listD_tup, itemsD_lst, itemsD_tup, slU_tup, slU_lst, itemU_tup, itemU_lst, itemD_tup, itemD_lst, lenD_lst, lenD_tup, isL_lst, appD_lst, setD_lst, revU_tup, rg1D_int, absD_int, repr1_one, enumU_tup, enumU_lst, isi_none, isi_bool, isi_int, isi_str, isi_lst, isi_tup, eqD_int, neD_int, eqD_bool, neD_bool, String.reduceBEq, Bool.or_false, Bool.or_true, Bool.false_or, Bool.true_or, Bool.not_not, true_and, and_true, Bool.not_true, Bool.not_false, Bool.and_true, Bool.and_false, Bool.true_and, Bool.false_and, if_true, if_false, reduceIte, decide_true, decide_false, lineN, Int.reduceAdd, Int.reduceSub, Int.reduceMul, Int.reduceNeg, Int.reduceLT, Int.reduceLE, Int.reduceEq, Int.reduceNe, Int.reduceGT, Int.reduceGE, Int.reduceToNat, ne_eq, not_true_eq_false, not_false_eq_true, Int.cast_ofNat_Int, WO_ite, WO_map, WO_bind, St_left, St_cell, St_turns, St_setL, St_setT, St_isKD, sumD_ls, minD_ls, maxD_ls, List.length_map, List.length_append, List.length_set, envD, List.map_cons, List.map_nil, List.replicate_succ, List.replicate_zero])
  | `(tactic| wp_walk using $ts,*) => `(tactic| simp only [W_ok, W_err, WR_ok, WR_err, WO_some, WI_true, WI_false, W_bnd, W_ret, W_lft, slot_some, W_var, W_lit, W_un, W_bin, W_app, W_itV, W_itA, W_nilA, W_consA, W_tupE, W_lstE, W_test, W_testB, W_notT, W_andT, W_orT, W_andV, W_orV, W_notV, W_ifE, W_chn, W_sliU, W_noPart, W_part, W_sq, W_nx, W_asg, W_drp, W_rtn, W_ifS, W_rai, W_fgt, forget_nil, forget_cons, restore_nil, restore_cons, List.getD_cons_zero, List.getD_cons_succ, W_brkS, W_cntS, W_asgL, setE_cons, setE_nil, setE_nil', W_asgT, W_tgN, W_tgT, W_tgs_nil, W_tgs_cons, W_chk, W_updI, W_appS, W_setS, W_setS2, W_augS, W_putS, W_popM, W_popE, W_popAtE, W_idxE, W_lrgE, W_pairs_nil, W_pairs_cons, W_dispE, W_callE, W_callK, W_callIO, W_tryS, W_forS, W_lcT, W_noT, List.getElem?_cons_zero, List.getElem?_cons_succ, List.getElem?_nil, List.set_cons_zero, List.set_cons_succ, List.length_cons, List.length_nil, List.append_nil, List.nil_append, List.cons_append, Nat.reduceAdd, Nat.zero_add, Nat.reduceSub, Nat.reduceLeDiff, Nat.reduceLT, Nat.reduceEqDiff, addU_int, addU_str, addU_tup, addU_lst, catL_lst, addI_int, subI_int, mulI_int, mulU_int, mulU_tup, repL_lst, fdivI_int, modI_int, powI_int, negD_int, ltI_int, leI_int, gtI_int, geI_int, isN_none, isN_bool, isN_int, isN_str, isN_lst, isN_tup, notN_none, notN_bool, notN_int, notN_str, notN_lst, notN_tup, truth_none, truth_bool, truth_int, truth_lst, truth_tup, boolOf_bool, intOf_int, tupleD_lst, tupleD_tup, listD_lst, listD_tup, itemsD_lst, itemsD_tup, slU_tup, slU_lst, itemU_tup, itemU_lst, itemD_tup, itemD_lst, lenD_lst, lenD_tup, isL_lst, appD_lst, setD_lst, revU_tup, rg1D_int, absD_int, repr1_one, enumU_tup, enumU_lst, isi_none, isi_bool, isi_int, isi_str, isi_lst, isi_tup, eqD_int, neD_int, eqD_bool, neD_bool, String.reduceBEq, Bool.or_false, Bool.or_true, Bool.false_or, Bool.true_or, Bool.not_not, true_and, and_true, Bool.not_true, Bool.not_false, Bool.and_true, Bool.and_false, Bool.true_and, Bool.false_and, if_true, if_false, reduceIte, decide_true, decide_false, lineN, Int.reduceAdd, Int.reduceSub, Int.reduceMul, Int.reduceNeg, Int.reduceLT, Int.reduceLE, Int.reduceEq, Int.reduceNe, Int.reduceGT, Int.reduceGE, Int.reduceToNat, ne_eq, not_true_eq_false, not_false_eq_true, Int.cast_ofNat_Int, WO_ite, WO_map, WO_bind, St_left, St_cell, St_turns, St_setL, St_setT, St_isKD, sumD_ls, minD_ls, maxD_ls, List.length_map, List.length_append, List.length_set, envD, List.map_cons, List.map_nil, List.replicate_succ, List.replicate_zero, $[$ts:term],*])
theorem mixed_ok {c k : Int} (h0 : 0 ≤ k) (h1 : k ≤ 1099511627776) : ∃ d, res (f__law_mixed [.int c, .int k]) = .ok d ∧ ∃ m, d = .int m := by
  have hk := Int.fmod_nonneg_of_pos k (b := 4) (by omega)
  have hk2 := Int.fmod_lt_of_pos k (b := 4) (by omega)
  apply res_ex
  unfold f__law_mixed
  apply W_b2
  unfold b__law_mixed
  have fin : ∀ M : Int, 0 < M → M ≤ 2147483629 → wideOk 7919 k = true ∧ wideOk (c.fmod M + 7919 * k + 13) (c.fmod M + 7919 * k + 13) = true ∧ ∀ z : Int, wideOk z 48271 = true := fun M h h' => by
    have a1 := Int.fmod_nonneg_of_pos c h
    have a2 := Int.fmod_lt_of_pos c h
    exact ⟨wide_l (by omega), wide_l (by omega), fun z => wide_r (by omega)⟩
  obtain e | e | e | e : k.fmod 4 = 0 ∨ k.fmod 4 = 1 ∨ k.fmod 4 = 2 ∨ k.fmod 4 = 3 := by omega
  · obtain ⟨a, b, z⟩ := fin 1000000007 (by omega) (by omega)
    (wp_walk using e, a, b, z, L2.atI, L2.ixN)
    exact ⟨_, rfl⟩
  · obtain ⟨a, b, z⟩ := fin 998244353 (by omega) (by omega)
    (wp_walk using e, a, b, z, L2.atI, L2.ixN)
    exact ⟨_, rfl⟩
  · obtain ⟨a, b, z⟩ := fin 2147483629 (by omega) (by omega)
    (wp_walk using e, a, b, z, L2.atI, L2.ixN)
    exact ⟨_, rfl⟩
  · obtain ⟨a, b, z⟩ := fin 1000000009 (by omega) (by omega)
    (wp_walk using e, a, b, z, L2.atI, L2.ixN)
    exact ⟨_, rfl⟩
theorem draw_ok {c k : Int} (h0 : 0 ≤ k) (h1 : k ≤ 100) : ∃ d, res (f__law_draw [.int c, .int k]) = .ok d ∧ ∃ l, d = St l c (1000 * k) := by
  apply res_ex
  unfold f__law_draw
  apply W_b2
  unfold b__law_draw
  (wp_walk using wide_l (i := 1000) (j := k) (by decide))
  refine ⟨by decide, WI_split (fun h => ?_) (fun h => ?_)⟩
  · (wp_walk using wide_l (i := 1000) (j := k) (by decide))
    exact ⟨rfl, _, rfl⟩
  · (wp_walk using wide_l (i := 1000) (j := k) (by decide))
    exact ⟨rfl, _, rfl⟩
/-- a digit is drawn -/
theorem digit_ok {n : Nat} {l c t b : Int} {Q : D → Dn.Env → Prop} {E : Str → D → Dn.Env → Prop} (h0 : 0 < b) (h1 : b < 1073741824) (g : GS (n + 1) t)
    (k : ∀ v l' t' ρ', 0 ≤ v → v < b → GS n t' → ρ'[0]? = some (some (St l' c t')) → Q (.int v) ρ') : W (f__law_digit [St l c t, .int b]) Q E := by
  unfold f__law_digit
  apply W_b2
  unfold b__law_digit
  have tt := g.2
  have t0 := g.1
  wp_walk
  refine WI_dec (fun e => ?_) (fun e => ?_)
  · (wp_walk using rng1_ok (j := 4) (by decide) (by decide))
    refine W_for (fun i ρ => ∃ l ρ2, ρ = [some (St l c (t + i)), some (.int b), ρ2, none]) ⟨l, none, by simp⟩ (fun i x ρ hx ⟨l', ρ2, e⟩ => ?_) fun ρ ⟨l', ρ2, e⟩ => ?_
    · subst e
      obtain ⟨hi, rfl⟩ := rngL_at hx
      have : i < 4 := by simpa using hi
      obtain ⟨d, hd, m, rfl⟩ := mixed_ok (c := c) (k := t + i + 1) (by omega) (by omega)
      (wp_walk using hd, wide_r (i := l') (j := 2147483647) (by decide))
      exact ⟨_, _, by rw [show t + ((i + 1 : Nat) : Int) = t + i + 1 by omega]⟩
    · subst e
      (wp_walk using div_ok (j := b) (by omega) (by omega), show ¬ b = 0 by omega)
      refine k _ (l'.fdiv b) _ _ (Int.fmod_nonneg_of_pos l' h0) (Int.fmod_lt_of_pos l' h0) ⟨?_, ?_⟩ rfl
      · omega
      · rw [rngL_n]; omega
  · (wp_walk using div_ok (j := b) (by omega) (by omega), show ¬ b = 0 by omega)
    exact k _ (l.fdiv b) t _ (Int.fmod_nonneg_of_pos l h0) (Int.fmod_lt_of_pos l h0) ⟨by omega, by omega⟩ rfl
/-! ### the program -/
def nd : D → Bool
  | .dict _ => false
  | _ => true
def iw (x : D) (a b : Int) : Bool := match x with
  | .int i => decide (a ≤ i) && decide (i ≤ b)
  | _ => false
theorem is_whole_ok {x : D} {a b : Int} (h : nd x = true) : res (f_is_whole [x, .int a, .int b]) = .ok (.bool (iw x a b)) := by
  apply res_ok
  unfold f_is_whole
  apply W_b3
  unfold b_is_whole
  cases x with
  | dict _ => cases h
  | int i =>
    wp_walk
    refine WI_dec (fun e => ?_) (fun e => ?_)
    · wp_walk
      simp [iw, e]
    · simp [iw, e]
  | _ =>
    wp_walk
    rfl
/-- a row of numbers that are wanted -/
structure Row (ns : List Int) : Prop where
  one : 1 ≤ ns.length
  le : ns.length ≤ 24
  sz : ∀ x ∈ ns, x.natAbs ≤ 1000
def ts (ns : List Int) : D := .tuple (ns.map .int)
def ls (ns : List Int) : D := .list (ns.map .int)
theorem wrong_ok {ns : List Int} (h : Row ns) : res (f_wrong_numbers [ts ns, .int 1]) = .ok (.list []) := by
  apply res_ok
  unfold f_wrong_numbers
  apply W_b2
  unfold b_wrong_numbers ts
  have h1 := h.one
  have h2 := h.le
  (wp_walk using show (1 : Int) ≤ ns.length by omega, show ((ns.length : Int) ≤ 24) by omega)
  refine W_lcP ?_
  wp_walk
  refine ⟨by rw [numL_n, List.length_map]; omega, fun _ => none, fun x hx => ?_, ?_⟩
  · obtain ⟨k, hk⟩ := List.getElem?_of_mem hx
    rw [numL_get, List.getElem?_map] at hk
    cases hi : ns[k]? with
    | none => rw [hi] at hk; cases hk
    | some i =>
      rw [hi] at hk
      cases hk
      have z := h.sz i (List.mem_of_getElem? hi)
      have w := is_whole_ok (x := .int i) (a := -1000) (b := 1000) rfl
      have e : iw (.int i) (-1000) 1000 = true := by simp [iw]; omega
      rw [e] at w
      (wp_walk using w)
  · simp
theorem need_ok {ns : List Int} (h : Row ns) : res (f_need_numbers [ts ns, .int 1]) = .ok .none := by
  apply res_ok
  unfold f_need_numbers
  apply W_b2
  unfold b_need_numbers
  (wp_walk using wrong_ok h)
  have e : neD (.list []) (.list []) = some (.bool false) := rfl
  (wp_walk using e)
theorem fmodN (a b : Nat) : (a : Int).fmod (b : Int) = ((a % b : Nat) : Int) := by rw [Int.fmod_eq_emod_of_nonneg _ (by omega)]; rfl
theorem rng_getD {f : Nat → Int} {m j : Nat} (h : j < m) : ((List.range m).map f).getD j 0 = f j := by
  rw [List.getD_eq_getElem?_getD, List.getElem?_map, List.getElem?_range h]; rfl
theorem rng_succ {f : Nat → Int} {m : Nat} : (List.range (m + 1)).map f = (List.range m).map f ++ [f m] := by
  rw [List.range_succ, List.map_append]; rfl
def lin (ns : List Int) (i s : Nat) : List Int := (List.range (s + 1)).map (en (rd ns) i)
theorem rd_nat {ns : List Int} (h : 1 ≤ ns.length) (j : Nat) : L2.atI (ns.map PyData.int) (((j % ns.length : Nat) : Int)) = some (.int (rd ns j)) := by
  have := Nat.mod_lt j h
  rw [atI_ints (by omega) (by omega)]; rfl
theorem rd_sz {ns : List Int} (h : Row ns) (j : Nat) : (rd ns j).natAbs ≤ 1000 := h.sz _ (getD_mem (Nat.mod_lt j h.one))
theorem own_line_ok {ns : List Int} (h : Row ns) (i s : Nat) (hs : s < 1000000) : res (f_own_line [ts ns, .int i, .int s]) = .ok (ls (lin ns i s)) := by
  apply res_ok
  unfold f_own_line
  apply W_b3
  unfold b_own_line ts
  have h1 := h.one
  (wp_walk using rng2_ok (i := 1) (j := s) (by omega) (by omega) (by omega) (by omega))
  refine W_for (fun k ρ => ∃ ρ4, ρ = [some (ts ns), some (.int i), some (.int s), some (ls ((List.range (k + 2)).map (en (rd ns) i))), ρ4]) ⟨none, by simp [ts, ls, List.range_succ, en]⟩ (fun k x ρ hx ⟨ρ4, e⟩ => ?_) fun ρ ⟨ρ4, e⟩ => ?_
  · subst e
    obtain ⟨hk, rfl⟩ := rngL_at hx
    unfold ts ls
    have e1 : ((i : Int) + (1 + (k : Int))).fmod (ns.length : Int) = (((i + k + 1) % ns.length : Nat) : Int) := by
      rw [← fmodN]; congr 1; omega
    have e2 : L2.atI (((List.range (k + 2)).map (en (rd ns) i)).map PyData.int) (-1) = some (.int (en (rd ns) i (k + 1))) := by
      rw [atI_intsN (by omega) (by simp; omega), show (-1 + (((List.range (k + 2)).map (en (rd ns) i)).length : Int)).toNat = k + 1 by simp; omega, rng_getD (by omega)]
    have e3 : L2.atI (((List.range (k + 2)).map (en (rd ns) i)).map PyData.int) (-2) = some (.int (en (rd ns) i k)) := by
      rw [atI_intsN (by omega) (by simp; omega), show (-2 + (((List.range (k + 2)).map (en (rd ns) i)).length : Int)).toNat = k by simp; omega, rng_getD (by omega)]
    have z := rd_sz h (i + k + 1)
    (wp_walk using show ¬ (ns.length : Int) = 0 by omega, e1, rd_nat h1, e2, e3, wide_l (i := rd ns (i + k + 1)) (j := en (rd ns) i (k + 1)) (by omega), List.length_range)
    refine ⟨by omega, some (.int (1 + k)), ?_⟩
    rw [show k + 1 + 2 = (k + 2) + 1 from rfl, rng_succ (m := k + 2), List.map_append]
    rfl
  · subst e
    unfold ts ls
    (wp_walk using cut_to (xs := ((List.range ((rngL 1 (s - 1 : Int).toNat).length + 2)).map (en (rd ns) i)).map PyData.int) (k := s + 1) (by omega))
    unfold lin
    rw [rngL_n, ← List.map_take, ← List.map_take, List.take_range]
    congr 4
    omega
theorem own_entry_ok {ns : List Int} (h : Row ns) (i s : Nat) (hs : s < 1000000) : res (f_own_entry [ts ns, .int i, .int (i + s : Nat)]) = .ok (.int (en (rd ns) i s)) := by
  apply res_ok
  unfold f_own_entry
  apply W_b3
  unfold b_own_entry
  have e1 : ((i + s : Nat) : Int) - (i : Int) = (s : Int) := by omega
  have e2 : L2.atI ((lin ns i s).map PyData.int) (-1) = some (.int (en (rd ns) i s)) := by
    unfold lin
    rw [atI_intsN (by omega) (by simp; omega), show (-1 + (((List.range (s + 1)).map (en (rd ns) i)).length : Int)).toNat = s by simp; omega, rng_getD (by omega)]
  (wp_walk using e1, own_line_ok h i s hs, ls, e2)
/-! ### ones taken out -/
def nz (ms : List Nat) : List Int := ms.map fun (m : Nat) => (m : Int)
theorem nz_len (ms : List Nat) : (nz ms).length = ms.length := by unfold nz; simp
theorem nz_getD (ms : List Nat) (i : Nat) : (nz ms).getD i 0 = ((ms.getD i 0 : Nat) : Int) := by
  unfold nz
  rw [List.getD_eq_getElem?_getD, List.getD_eq_getElem?_getD, List.getElem?_map]
  cases ms[i]? <;> rfl
theorem ixN_pred {n p : Nat} (h : p < n) : L2.ixN n ((p : Int) - 1) = some ((p + n - 1) % n) := by
  by_cases c : p = 0
  · subst c
    rw [ixN_neg (by omega) (by omega), Nat.mod_eq_of_lt (by omega)]; congr 1; omega
  · rw [ixN_nn (by omega) (by omega), show p + n - 1 = (p - 1) + n by omega, Nat.add_mod_right, Nat.mod_eq_of_lt (by omega)]; congr 1; omega
theorem ixN_succ {n p : Nat} (h : 0 < n) : L2.ixN n (((p : Int) + 1).fmod (n : Int)) = some ((p + 1) % n) := by
  rw [show (p : Int) + 1 = ((p + 1 : Nat) : Int) by omega, fmodN, ixN_nat (Nat.mod_lt _ h)]
theorem atI_ix {ns : List Int} {k : Int} {a : Nat} (h : L2.ixN ns.length k = some a) (ha : a < ns.length) : L2.atI (ns.map PyData.int) k = some (.int (ns.getD a 0)) := by
  unfold L2.atI
  rw [List.length_map, h]
  show (ns.map PyData.int)[a]? = _
  rw [List.getElem?_map, List.getD_eq_getElem?_getD, List.getElem?_eq_getElem ha]; rfl
theorem cut_two {xs : List D} {p : Nat} : cutL xs none (some (p : Int)) ++ cutL xs (some ((p : Int) + 1)) none = xs.eraseIdx p := by
  rw [cut_to (by omega), cut_from (by omega), List.eraseIdx_eq_take_drop_succ]
  congr 1
theorem cut_two_len {xs : List D} {p : Nat} : (cutL xs none (some (p : Int))).length + (cutL xs (some ((p : Int) + 1)) none).length ≤ xs.length := by
  rw [cut_to (by omega), cut_from (by omega), List.length_take, List.length_drop]; omega
theorem map_eraseIdx {α β : Type} {f : α → β} : ∀ (l : List α) (i : Nat), (l.map f).eraseIdx i = (l.eraseIdx i).map f
  | [], i => by simp
  | x :: l, 0 => by simp
  | x :: l, i + 1 => by simp [map_eraseIdx l i]
theorem own_step_ok {ms : List Nat} {row : List Int} {p : Nat} (hl : ms.length = row.length) (hp : p < row.length) (hb : row.length ≤ 1000) :
    res (f_own_step [ls (nz ms), ls row, .int p]) = .ok (.tuple [ls (nz (ms.eraseIdx p)), ls (wo row p)]) := by
  apply res_ok
  unfold f_own_step
  apply W_b3
  unfold b_own_step ls
  have h0 : 0 < row.length := by omega
  have a1 := Nat.mod_lt (p + row.length - 1) h0
  have a2 := Nat.mod_lt (p + 1) h0
  have i1 := ixN_pred hp
  have i2 := ixN_succ (p := p) h0
  have i2' : L2.ixN (dec row ((p + row.length - 1) % row.length)).length (((p : Int) + 1).fmod (row.length : Int)) = some ((p + 1) % row.length) := by rw [dec_len]; exact i2
  have s1 : (row.map PyData.int).set ((p + row.length - 1) % row.length) (.int (row.getD ((p + row.length - 1) % row.length) 0 - 1)) = (dec row ((p + row.length - 1) % row.length)).map .int := by rw [set_ints]; rfl
  have s2 : ∀ r : List Int, (r.map PyData.int).set ((p + 1) % row.length) (.int (r.getD ((p + 1) % row.length) 0 - 1)) = (dec r ((p + 1) % row.length)).map .int := fun r => by rw [set_ints]; rfl
  (wp_walk using atI_ix i1 a1, i1, s1)
  (wp_walk using atI_ix i2' (by rw [dec_len]; exact a2), i2, s2, dec_len, show ¬ (row.length : Int) = 0 by omega)
  have c1 := cut_two_len (xs := (nz ms).map PyData.int) (p := p)
  have c2 := cut_two_len (xs := (dec (dec row ((p + row.length - 1) % row.length)) ((p + 1) % row.length)).map PyData.int) (p := p)
  rw [List.length_map, nz_len] at c1
  rw [List.length_map, dec_len, dec_len] at c2
  refine ⟨by omega, by omega, ?_⟩
  rw [cut_two, cut_two, map_eraseIdx, map_eraseIdx]
  congr 4
  unfold nz
  rw [map_eraseIdx]
theorem minL_mn {l : List Int} (h : l ≠ []) : minL l = some (mn l) := by
  cases l with
  | nil => exact absurd rfl h
  | cons x r => rfl
theorem indexL_ints {x : Int} : ∀ {l : List Int} {i : Nat}, x ∈ l → indexL (.int x) (l.map PyData.int) i = some (i + ix l x)
  | [], _, h => by cases h
  | y :: l, i, h => by
    unfold ix
    rw [List.map_cons, indexL]
    simp only [PyData.eqv, List.findIdx_cons]
    by_cases e : y = x
    · subst e; simp
    · have h' : x ∈ l := by
        rcases List.mem_cons.mp h with h | h
        · exact absurd h.symm e
        · exact h
      have b : (y == x) = false := by simpa using e
      simp only [b, Bool.false_eq_true, if_false, cond_false]
      rw [indexL_ints h']
      unfold ix
      congr 1
      omega
theorem index_ls {x : Int} {l : List Int} (h : x ∈ l) : indexD (.list (l.map PyData.int)) (.int x) = some (.int (ix l x)) := by
  unfold indexD
  simp only []
  rw [show (60 : Nat) = 59 + 1 from rfl, pl_list, pl_ints, pl_int, indexL_ints h]
  simp
def L (ns : List Int) : List Nat × List Int × List Nat := lf ns.length (List.range ns.length) ns []
theorem L_inv {ns : List Int} (h : 1 ≤ ns.length) : Inv ns (L ns).1 (L ns).2.1 (L ns).2.2 ∧ ¬ (mn (L ns).2.1 = 1 ∧ 1 < (L ns).2.1.length) := lf_end _ _ _ _ (Inv.start h) (by omega)
theorem lf_stop {f : Nat} {ms : List Nat} {row : List Int} {st : List Nat} (h : ¬ (mn row = 1 ∧ 1 < row.length)) : lf f ms row st = (ms, row, st) := by
  cases f with
  | zero => rfl
  | succ f => unfold lf; rw [if_neg h]
theorem rngL_nz (n : Nat) : rngL 0 n = (nz (List.range n)).map PyData.int := by
  unfold rngL nz
  rw [List.map_map]
  congr 1
  funext i
  simp
theorem nil_ne {l : List Int} (h : 1 ≤ l.length) : l ≠ [] := by intro e; rw [e] at h; simp at h
theorem own_left_ok {ns : List Int} (h : Row ns) : res (f_own_left [ts ns]) = .ok (.tuple [ls (nz (L ns).1), ls (L ns).2.1, ls (nz (L ns).2.2)]) := by
  apply res_ok
  unfold f_own_left
  apply W_b1
  unfold b_own_left ts
  have h1 := h.one
  have h2 := h.le
  (wp_walk using show decide (0 ≤ (ns.length : Int)) = true by simp, show decide ((ns.length : Int) ≤ 16777216) = true by simp; omega)
  refine W_whl (fun m ρ => ∃ ms row st f ρ4, ρ = [some (ts ns), some (ls (nz ms)), some (ls row), some (ls (nz st)), ρ4] ∧ Inv ns ms row st ∧ row.length ≤ f + 1 ∧ lf f ms row st = L ns ∧ m = row.length) ns.length ?_ (by unfold FU; omega) fun m ρ ⟨ms, row, st, f, ρ4, e, I, hf, hL, hm⟩ => ?_
  · refine ⟨List.range ns.length, ns, [], ns.length, none, ?_, Inv.start h1, by omega, rfl, rfl⟩
    rw [Int.toNat_natCast, rngL_nz]; rfl
  · subst e
    have one := I.one
    have le := I.le
    unfold ts ls
    (wp_walk using minL_mn (nil_ne one))
    refine WI_dec (fun e1 => ?_) (fun e1 => ?_)
    · wp_walk
      refine WI_dec (fun e2 => ?_) (fun e2 => ?_)
      · have e2' : 1 < row.length := by omega
        have mem : (1 : Int) ∈ row := by rw [← e1]; exact mn_mem (nil_ne one)
        have hs := own_step_ok (ms := ms) (row := row) (p := ix row 1) I.len (ix_lt mem) (by omega)
        unfold ls at hs
        (wp_walk using index_ls mem, hs)
        refine ⟨by rw [nz_len]; omega, ?_⟩
        refine ⟨(wo row (ix row 1)).length, ?_, ms.eraseIdx (ix row 1), wo row (ix row 1), st ++ [ix row 1], f - 1, some (.int (ix row 1)), ?_, I.step e1 e2', ?_, ?_, rfl⟩
        · rw [wo_len _ _ (ix_lt mem)]; omega
        · simp [nz]
        · rw [wo_len _ _ (ix_lt mem)]; omega
        · obtain ⟨g, rfl⟩ : ∃ g, f = g + 1 := ⟨f - 1, by omega⟩
          rw [← hL]
          show lf g _ _ _ = lf (g + 1) _ _ _
          rw [lf, if_pos ⟨e1, e2'⟩]
      · wp_walk
        rw [← hL, lf_stop fun c => e2 (by have := c.2; omega)]
    · wp_walk
      rw [← hL, lf_stop fun c => e1 c.1]
theorem atI_lit0 {α : Type} {x : α} {xs : List α} : L2.atI (x :: xs) 0 = some x := by rw [atI_nn (by omega) (by simp)]; rfl
theorem atI_lit1 {α : Type} {x y : α} {xs : List α} : L2.atI (x :: y :: xs) 1 = some y := by rw [atI_nn (by omega) (by simp; omega)]; rfl
theorem atI_lit2 {α : Type} {x y z : α} {xs : List α} : L2.atI (x :: y :: z :: xs) 2 = some z := by rw [atI_nn (by omega) (by simp; omega)]; rfl
theorem left_of_ok {ns : List Int} (h : Row ns) : res (f_left_of [ts ns]) = .ok (ts (L ns).2.1) := by
  apply res_ok
  unfold f_left_of
  apply W_b1
  unfold b_left_of
  have hl := own_left_ok h
  unfold ls at hl
  (wp_walk using need_ok h, hl, atI_lit1)
  rfl
theorem own_endless_ok {ns : List Int} (h : Row ns) : res (f_own_endless [ts ns]) = .ok (.bool (decide (1 < mn (L ns).2.1))) := by
  apply res_ok
  unfold f_own_endless
  apply W_b1
  unfold b_own_endless
  have hl := own_left_ok h
  unfold ls at hl
  (wp_walk using hl, atI_lit1, minL_mn (nil_ne (L_inv h.one).1.one))
theorem is_endless_ok {ns : List Int} (h : Row ns) : res (f_is_endless [ts ns]) = .ok (.bool (decide (1 < mn (L ns).2.1))) := by
  apply res_ok
  unfold f_is_endless
  apply W_b1
  unfold b_is_endless
  (wp_walk using need_ok h, own_endless_ok h)
theorem own_trace_ok {ns : List Int} (h : Row ns) : res (f_own_trace [ts ns]) = .ok (.int (tr (rd ns) ns.length 0)) := by
  apply res_ok
  unfold f_own_trace
  apply W_b1
  have h1 := h.one
  have h2 := h.le
  have e1 := own_entry_ok h 0 (ns.length + 1) (by omega)
  have e2 := own_entry_ok h 1 (ns.length - 1) (by omega)
  rw [show ((0 + (ns.length + 1) : Nat) : Int) = (ns.length : Int) + 1 by omega] at e1
  rw [show ((1 + (ns.length - 1) : Nat) : Int) = (ns.length : Int) by omega] at e2
  unfold b_own_trace
  unfold ts at *
  (wp_walk using show res (f_own_entry [.tuple (ns.map .int), .int 0, .int ((ns.length : Int) + 1)]) = .ok (.int (en (rd ns) 0 (ns.length + 1))) from e1, show res (f_own_entry [.tuple (ns.map .int), .int 1, .int (ns.length : Int)]) = .ok (.int (en (rd ns) 1 (ns.length - 1))) from e2)
  rfl
theorem row_trace_ok {ns : List Int} (h : Row ns) : res (f_row_trace [ts ns]) = .ok (.int (tr (rd ns) ns.length 0)) := by
  apply res_ok
  unfold f_row_trace
  apply W_b1
  unfold b_row_trace
  (wp_walk using need_ok h, own_trace_ok h)
theorem entry_between_ok {ns : List Int} (h : Row ns) (i s : Nat) (hi : i < ns.length) (hs : s ≤ 2000) : res (f_entry_between [ts ns, .int i, .int (i + s : Nat)]) = .ok (.int (en (rd ns) i s)) := by
  apply res_ok
  unfold f_entry_between
  apply W_b3
  unfold b_entry_between
  have e := own_entry_ok h i s (by omega)
  have w1 := is_whole_ok (x := .int i) (a := 0) (b := (ns.length : Int) - 1) rfl
  rw [show iw (.int i) 0 ((ns.length : Int) - 1) = true by simp [iw]; omega] at w1
  have w2 := is_whole_ok (x := .int (i + s : Nat)) (a := i) (b := (i : Int) + 2000) rfl
  rw [show iw (.int (i + s : Nat)) i ((i : Int) + 2000) = true by simp [iw]; omega] at w2
  have n := need_ok h
  unfold ts at *
  (wp_walk using n, w1, w2, e)
/-! ### papers -/
structure Ends (ns : List Int) (o k : Nat) : Prop where
  lt : o < ns.length
  lo : 2 ≤ k
  hi : k ≤ 3 * ns.length
  en : en (rd ns) o k < 1
def PaperOk (ns : List Int) (d : D) : Prop := (1 < mn (L ns).2.1 ∧ d = .tuple [.str "endless", ts (nz (L ns).2.2)]) ∨ (mn (L ns).2.1 ≤ 1 ∧ ∃ o k, Ends ns o k ∧ d = .tuple [.str "ends", .int o, .int (o + k : Nat)])
theorem endless_paper_ok {ns : List Int} (h : Row ns) : ∃ d, res (f_endless_paper [ts ns]) = .ok d ∧ PaperOk ns d := by
  apply res_ex
  unfold f_endless_paper
  apply W_b1
  unfold b_endless_paper
  have hl := own_left_ok h
  have hn := need_ok h
  obtain ⟨I, cnd⟩ := L_inv h.one
  unfold PaperOk
  have h1 := h.one
  have h2 := h.le
  generalize (L ns).1 = ms at *
  generalize (L ns).2.1 = row at *
  generalize (L ns).2.2 = st at *
  have one := I.one
  unfold ts ls at *
  have ne := nil_ne one
  (wp_walk using hn, hl, minL_mn ne)
  refine WI_dec (fun e1 => ?_) (fun e1 => ?_)
  · wp_walk
    exact .inl e1
  · (wp_walk using minL_mn ne)
    refine WI_dec (fun e2 => ?_) (fun e2 => ?_)
    · have l1 : row.length = 1 := by omega
      rcases I.ends cnd (by omega) with ⟨_, _, q1, q2⟩ | ⟨q, _⟩
      · have a0 : L2.atI ((nz ms).map PyData.int) 0 = some (.int ((ms.getD 0 0 : Nat) : Int)) := by
          have lm := I.len
          rw [atI_ints (by omega) (by rw [nz_len]; omega), show (0 : Int).toNat = 0 from rfl, nz_getD]
        (wp_walk using a0, wide_l (i := 3) (j := (ns.length : Int)) (by decide))
        refine .inr ⟨by omega, ms.getD 0 0, 3 * ns.length, ⟨q2, by omega, by omega, by rw [q1]; decide⟩, ?_⟩
        congr 5
      · omega
    · obtain ⟨d, d2, dn_, hp, hB, hC, hF, hen, hc⟩ := I.beside (by omega)
      have mem := mn_mem ne
      have lm := I.len
      have hpm : ix row (mn row) < (nz ms).length := by rw [nz_len]; omega
      have i1 : L2.ixN (nz ms).length (((ix row (mn row) : Nat) : Int) - 1) = some ((ix row (mn row) + row.length - 1) % row.length) := by rw [nz_len, lm]; exact ixN_pred hp
      have i2 : L2.ixN (nz ms).length ((((ix row (mn row) : Nat) : Int) + 1).fmod (((nz ms).length : Nat) : Int)) = some ((ix row (mn row) + 1) % row.length) := by rw [nz_len, lm]; exact ixN_succ (by omega)
      have i3 : L2.ixN (nz ms).length ((ix row (mn row) : Nat) : Int) = some (ix row (mn row)) := ixN_nat hpm
      have lz : (nz ms).length = row.length := by rw [nz_len, lm]
      have m1 := Nat.mod_lt (ix row (mn row) + row.length - 1) (show 0 < row.length by omega)
      have m2 := Nat.mod_lt (ix row (mn row) + 1) (show 0 < row.length by omega)
      have A1 := atI_ix i1 (by rw [lz]; exact m1)
      have A2 := atI_ix i2 (by rw [lz]; exact m2)
      have A3 := atI_ix i3 hpm
      rw [nz_getD] at A1 A2 A3
      generalize ms.getD ((ix row (mn row) + row.length - 1) % row.length) 0 = B at *
      generalize ms.getD ((ix row (mn row) + 1) % row.length) 0 = F at *
      generalize ms.getD (ix row (mn row)) 0 = C at *
      (wp_walk using minL_mn ne, index_ls mem, A1, A2, A3, show ¬ ((nz ms).length : Int) = 0 by omega)
      have fin : ∀ x y : Int, x = B → y = (B + d : Nat) → (1 < mn row ∧ PyData.tuple [.str "ends", .int x, .int y] = PyData.tuple [.str "endless", .tuple ((nz st).map .int)]) ∨ (mn row ≤ 1 ∧ ∃ o k, Ends ns o k ∧ PyData.tuple [.str "ends", .int x, .int y] = .tuple [.str "ends", .int o, .int (o + k : Nat)]) := fun x y hx hy => .inr ⟨by omega, B, d, ⟨hB, d2, by omega, by omega⟩, by rw [hx, hy]⟩
      refine WI_dec (fun e3 => ?_) (fun e3 => ?_) <;> (wp_walk using A1, A2, A3) <;> refine WI_dec (fun e4 => ?_) (fun e4 => ?_) <;> (wp_walk using A1, A2, A3) <;> refine WI_dec (fun e5 => ?_) (fun e5 => ?_) <;> (wp_walk using A1, A2, A3) <;> first | (exfalso; omega) | (refine fin _ _ ?_ ?_ <;> omega)
/-! ### the law's own -/
theorem law_line_ok {ns : List Int} (h : Row ns) (i s : Nat) (hs : s < 1000000) : res (f__law_line [ts ns, .int i, .int s]) = .ok (ls (lin ns i s)) := by
  apply res_ok
  unfold f__law_line
  apply W_b3
  unfold b__law_line ts
  have h1 := h.one
  (wp_walk using rng2_ok (i := 1) (j := s) (by omega) (by omega) (by omega) (by omega))
  refine W_for (fun k ρ => ∃ ρ4, ρ = [some (ts ns), some (.int i), some (.int s), some (ls ((List.range (k + 2)).map (en (rd ns) i))), ρ4]) ⟨none, by simp [ts, ls, List.range_succ, en]⟩ (fun k x ρ hx ⟨ρ4, e⟩ => ?_) fun ρ ⟨ρ4, e⟩ => ?_
  · subst e
    obtain ⟨hk, rfl⟩ := rngL_at hx
    unfold ts ls
    have e1 : ((i : Int) + (1 + (k : Int))).fmod (ns.length : Int) = (((i + k + 1) % ns.length : Nat) : Int) := by
      rw [← fmodN]; congr 1; omega
    have e2 : L2.atI (((List.range (k + 2)).map (en (rd ns) i)).map PyData.int) (1 + (k : Int)) = some (.int (en (rd ns) i (k + 1))) := by
      rw [atI_ints (by omega) (by simp; omega), show (1 + (k : Int)).toNat = k + 1 by omega, rng_getD (by omega)]
    have e3 : L2.atI (((List.range (k + 2)).map (en (rd ns) i)).map PyData.int) (1 + (k : Int) - 1) = some (.int (en (rd ns) i k)) := by
      rw [atI_ints (by omega) (by simp; omega), show (1 + (k : Int) - 1).toNat = k by omega, rng_getD (by omega)]
    have z := rd_sz h (i + k + 1)
    (wp_walk using show ¬ (ns.length : Int) = 0 by omega, e1, rd_nat h1, e2, e3, wide_l (i := rd ns (i + k + 1)) (j := en (rd ns) i (k + 1)) (by omega), List.length_range)
    refine ⟨by omega, some (.int (1 + k)), ?_⟩
    rw [show k + 1 + 2 = (k + 2) + 1 from rfl, rng_succ (m := k + 2), List.map_append]
    rfl
  · subst e
    unfold ts ls
    (wp_walk using cut_to (xs := ((List.range ((rngL 1 (s - 1 : Int).toNat).length + 2)).map (en (rd ns) i)).map PyData.int) (k := s + 1) (by omega))
    unfold lin
    rw [rngL_n, ← List.map_take, ← List.map_take, List.take_range]
    congr 4
    omega
theorem law_without_ok {row : List Int} {p : Nat} (hp : p < row.length) (hb : row.length ≤ 1000) : res (f__law_without [ls row, .int p]) = .ok (ls (wo row p)) := by
  apply res_ok
  unfold f__law_without
  apply W_b2
  unfold b__law_without ls
  have h0 : 0 < row.length := by omega
  have a1 := Nat.mod_lt (p + row.length - 1) h0
  have a2 := Nat.mod_lt (p + 1) h0
  have i1 := ixN_pred hp
  have i2 := ixN_succ (p := p) h0
  have i2' : L2.ixN (dec row ((p + row.length - 1) % row.length)).length (((p : Int) + 1).fmod (row.length : Int)) = some ((p + 1) % row.length) := by rw [dec_len]; exact i2
  have s1 : (row.map PyData.int).set ((p + row.length - 1) % row.length) (.int (row.getD ((p + row.length - 1) % row.length) 0 - 1)) = (dec row ((p + row.length - 1) % row.length)).map .int := by rw [set_ints]; rfl
  have s2 : ∀ r : List Int, (r.map PyData.int).set ((p + 1) % row.length) (.int (r.getD ((p + 1) % row.length) 0 - 1)) = (dec r ((p + 1) % row.length)).map .int := fun r => by rw [set_ints]; rfl
  (wp_walk using atI_ix i1 a1, i1, s1)
  (wp_walk using atI_ix i2' (by rw [dec_len]; exact a2), i2, s2, dec_len, show ¬ (row.length : Int) = 0 by omega)
  have c2 := cut_two_len (xs := (dec (dec row ((p + row.length - 1) % row.length)) ((p + 1) % row.length)).map PyData.int) (p := p)
  rw [List.length_map, dec_len, dec_len] at c2
  refine ⟨by omega, ?_⟩
  rw [cut_two, map_eraseIdx]
  rfl
theorem law_left_ok {ns : List Int} (h : Row ns) : res (f__law_left [ts ns]) = .ok (ls (L ns).2.1) := by
  apply res_ok
  unfold f__law_left
  apply W_b1
  unfold b__law_left ts
  have h1 := h.one
  have h2 := h.le
  (wp_walk using rng1_ok (j := (ns.length : Int)) (by omega) (by omega))
  refine W_for (fun k ρ => ∃ ms row st f ρ2, ρ = [some (ts ns), some (ls row), ρ2] ∧ Inv ns ms row st ∧ (row.length ≤ f + 1 ∧ f + k = ns.length ∨ ¬ (mn row = 1 ∧ 1 < row.length)) ∧ lf f ms row st = L ns) ⟨List.range ns.length, ns, [], ns.length, none, rfl, Inv.start h1, .inl ⟨by omega, by omega⟩, rfl⟩ (fun k x ρ hx ⟨ms, row, st, f, ρ2, e, I, hf, hL⟩ => ?_) fun ρ ⟨ms, row, st, f, ρ2, e, I, hf, hL⟩ => ?_
  · subst e
    obtain ⟨hk, rfl⟩ := rngL_at hx
    have one := I.one
    have le := I.le
    unfold ts ls
    (wp_walk using minL_mn (nil_ne one))
    refine WI_dec (fun e1 => ?_) (fun e1 => ?_)
    · wp_walk
      refine WI_dec (fun e2 => ?_) (fun e2 => ?_)
      · have e2' : 1 < row.length := by omega
        have mem : (1 : Int) ∈ row := by rw [← e1]; exact mn_mem (nil_ne one)
        have hs := law_without_ok (row := row) (p := ix row 1) (ix_lt mem) (by omega)
        unfold ls at hs
        (wp_walk using index_ls mem, hs)
        rcases hf with ⟨hf, hg⟩ | hf
        · refine ⟨ms.eraseIdx (ix row 1), wo row (ix row 1), st ++ [ix row 1], f - 1, some (.int (0 + k)), rfl, I.step e1 e2', .inl ⟨?_, ?_⟩, ?_⟩
          · rw [wo_len _ _ (ix_lt mem)]; omega
          · omega
          · obtain ⟨g, rfl⟩ : ∃ g, f = g + 1 := ⟨f - 1, by omega⟩
            rw [← hL]
            show lf g _ _ _ = lf (g + 1) _ _ _
            rw [lf, if_pos ⟨e1, e2'⟩]
        · exact absurd ⟨e1, e2'⟩ hf
      · wp_walk
        exact ⟨ms, row, st, f, some (.int (0 + k)), rfl, I, .inr fun c => e2 (by have := c.2; omega), hL⟩
    · wp_walk
      exact ⟨ms, row, st, f, some (.int (0 + k)), rfl, I, .inr fun c => e1 c.1, hL⟩
  · subst e
    unfold ts ls
    wp_walk
    have one := I.one
    rw [← hL]
    congr 2
    rcases hf with ⟨hf, hg⟩ | hf
    · rw [rngL_n] at hg
      have : f = 0 := by omega
      subst this; rfl
    · rw [lf_stop hf]
theorem trL_snoc (l : List Int) (x : Int) : trL (l ++ [x]) = ((trL l).1 * x + (trL l).2.1, 0 - (trL l).1, (trL l).2.2.1 * x + (trL l).2.2.2, 0 - (trL l).2.2.1) := by
  unfold trL; rw [List.foldl_append]; rfl
theorem law_trace_ok' {ns : List Int} (hs : ∀ x ∈ ns, x.natAbs ≤ 1000000) (x : D) (hx : itemsD x = some (ns.map .int)) : res (f__law_trace [x]) = .ok (.int ((trL ns).1 + (trL ns).2.2.2)) := by
  apply res_ok
  unfold f__law_trace
  apply W_b1
  unfold b__law_trace
  (wp_walk using hx)
  refine W_for (fun k ρ => ∃ ρ5, ρ = [some x, some (.int (trL (ns.take k)).1), some (.int (trL (ns.take k)).2.1), some (.int (trL (ns.take k)).2.2.1), some (.int (trL (ns.take k)).2.2.2), ρ5]) ⟨none, rfl⟩ (fun k y ρ hy ⟨ρ5, e⟩ => ?_) fun ρ ⟨ρ5, e⟩ => ?_
  · subst e
    rw [List.getElem?_map] at hy
    cases hi : ns[k]? with
    | none => rw [hi] at hy; cases hy
    | some i =>
      rw [hi] at hy
      cases hy
      have z := hs i (List.mem_of_getElem? hi)
      have e : ns.take (k + 1) = ns.take k ++ [i] := by rw [List.take_add_one, hi]; rfl
      (wp_walk using wide_r (i := (trL (ns.take k)).1) (j := i) (by omega), wide_r (i := (trL (ns.take k)).2.2.1) (j := i) (by omega))
      rw [e, trL_snoc]
      exact ⟨some (.int i), rfl⟩
  · subst e
    rw [List.length_map, List.take_length]
    wp_walk
end K60

/-! K60J -/
set_option Elab.async false
set_option linter.all false
set_option maxRecDepth 100000
set_option maxHeartbeats 4000000
namespace K60
open PySem Dn
local macro_rules
  | `(tactic| wp_walk) => `(tactic| simp only [W_ok, W_err, WR_ok, WR_err, WO_some, WI_true, WI_false, W_bnd, W_ret, W_lft, slot_some, W_var, W_lit, W_un, W_bin, W_app, W_itV, W_itA, W_nilA, W_consA, W_tupE, W_lstE, W_test, W_testB, W_notT, W_andT, W_orT, W_andV, W_orV, W_notV, W_ifE, W_chn, W_sliU, W_noPart, W_part, W_sq, W_nx, W_asg, W_drp, W_rtn, W_ifS, W_rai, W_fgt, forget_nil, forget_cons, restore_nil, restore_cons, List.getD_cons_zero, List.getD_cons_succ, W_brkS, W_cntS, W_asgL, setE_cons, setE_nil, setE_nil', W_asgT, W_tgN, W_tgT, W_tgs_nil, W_tgs_cons, W_chk, W_updI, W_appS, W_setS, W_setS2, W_augS, W_putS, W_popM, W_popE, W_popAtE, W_idxE, W_lrgE, W_pairs_nil, W_pairs_cons, W_dispE, W_callE, W_callK, W_callIO, W_tryS, W_forS, W_lcT, W_noT, List.getElem?_cons_zero, List.getElem?_cons_succ, List.getElem?_nil, List.set_cons_zero, List.set_cons_succ, List.length_cons, List.length_nil, List.append_nil, List.nil_append, List.cons_append, Nat.reduceAdd, Nat.zero_add, Nat.reduceSub, Nat.reduceLeDiff, Nat.reduceLT, Nat.reduceEqDiff, addU_int, addU_str, addU_tup, addU_lst, catL_lst, addI_int, subI_int, mulI_int, mulU_int, mulU_tup, repL_lst, fdivI_int, modI_int, powI_int, negD_int, ltI_int, leI_int, gtI_int, geI_int, isN_none, isN_bool, isN_int, isN_str, isN_lst, isN_tup, notN_none, notN_bool, notN_int, notN_str, notN_lst, notN_tup, truth_none, truth_bool, truth_int, truth_lst, truth_tup, boolOf_bool, intOf_int, tupleD_lst, tupleD_tup, listD_lst, listD_tup, itemsD_lst, itemsD_tup, slU_tup, slU_lst, itemU_tup, itemU_lst, itemD_tup, itemD_lst, lenD_lst, lenD_tup, isL_lst, appD_lst, setD_lst, revU_tup, rg1D_int, absD_int, repr1_one, enumU_tup, enumU_lst, isi_none, isi_bool, isi_int, isi_str, isi_lst, isi_tup, eqD_int, neD_int, eqD_bool, neD_bool, String.reduceBEq, Bool.or_false, Bool.or_true, Bool.false_or, Bool.true_or, Bool.not_not, true_and, and_true, Bool.not_true, Bool.not_false, Bool.and_true, Bool.and_false, Bool.true_and, Bool.false_and, if_true, if_false, reduceIte, decide_true, decide_false, lineN, Int.reduceAdd, Int.reduceSub, Int.reduceMul, Int.reduceNeg, Int.reduceLT, Int.reduceLE, Int.reduceEq, Int.reduceNe, Int.reduceGT, Int.reduceGE, Int.reduceToNat, ne_eq, not_true_eq_false, not_false_eq_true, Int.cast_ofNat_Int, WO_ite, WO_map, WO_bind, St_left, St_cell, St_turns, St_setL, St_setT, St_isKD, sumD_ls, minD_ls, maxD_ls, List.length_map, List.length_append, List.length_set, envD, List.map_cons, List.map_nil, List.replicate_succ, List.replicate_zero])
  | `(tactic| wp_walk using $ts,*) => `(tactic| simp only [W_ok, W_err, WR_ok, WR_err, WO_some, WI_true, WI_false, W_bnd, W_ret, W_lft, slot_some, W_var, W_lit, W_un, W_bin, W_app, W_itV, W_itA, W_nilA, W_consA, W_tupE, W_lstE, W_test, W_testB, W_notT, W_andT, W_orT, W_andV, W_orV, W_notV, W_ifE, W_chn, W_sliU, W_noPart, W_part, W_sq, W_nx, W_asg, W_drp, W_rtn, W_ifS, W_rai, W_fgt, forget_nil, forget_cons, restore_nil, restore_cons, List.getD_cons_zero, List.getD_cons_succ, W_brkS, W_cntS, W_asgL, setE_cons, setE_nil, setE_nil', W_asgT, W_tgN, W_tgT, W_tgs_nil, W_tgs_cons, W_chk, W_updI, W_appS, W_setS, W_setS2, W_augS, W_putS, W_popM, W_popE, W_popAtE, W_idxE, W_lrgE, W_pairs_nil, W_pairs_cons, W_dispE, W_callE, W_callK, W_callIO, W_tryS, W_forS, W_lcT, W_noT, List.getElem?_cons_zero, List.getElem?_cons_succ, List.getElem?_nil, List.set_cons_zero, List.set_cons_succ, List.length_cons, List.length_nil, List.append_nil, List.nil_append, List.cons_append, Nat.reduceAdd, Nat.zero_add, Nat.reduceSub, Nat.reduceLeDiff, Nat.reduceLT, Nat.reduceEqDiff, addU_int, addU_str, addU_tup, addU_lst, catL_lst, addI_int, subI_int, mulI_int, mulU_int, mulU_tup, repL_lst, fdivI_int, modI_int, powI_int, negD_int, ltI_int, leI_int, gtI_int, geI_int, isN_none, isN_bool, isN_int, isN_str, isN_lst, isN_tup, notN_none, notN_bool, notN_int, notN_str, notN_lst, notN_tup, truth_none, truth_bool, truth_int, truth_lst, truth_tup, boolOf_bool, intOf_int, tupleD_lst, tupleD_tup, listD_lst, listD_tup, itemsD_lst, itemsD_tup, slU_tup, slU_lst, itemU_tup, itemU_lst, itemD_tup, itemD_lst, lenD_lst, lenD_tup, isL_lst, appD_lst, setD_lst, revU_tup, rg1D_int, absD_int, repr1_one, enumU_tup, enumU_lst, isi_none, isi_bool, isi_int, isi_str, isi_lst, isi_tup, eqD_int, neD_int, eqD_bool, neD_bool, String.reduceBEq, Bool.or_false, Bool.or_true, Bool.false_or, Bool.true_or, Bool.not_not, true_and, and_true, Bool.not_true, Bool.not_false, Bool.and_true, Bool.and_false, Bool.true_and, Bool.false_and, if_true, if_false, reduceIte, decide_true, decide_false, lineN, Int.reduceAdd, Int.reduceSub, Int.reduceMul, Int.reduceNeg, Int.reduceLT, Int.reduceLE, Int.reduceEq, Int.reduceNe, Int.reduceGT, Int.reduceGE, Int.reduceToNat, ne_eq, not_true_eq_false, not_false_eq_true, Int.cast_ofNat_Int, WO_ite, WO_map, WO_bind, St_left, St_cell, St_turns, St_setL, St_setT, St_isKD, sumD_ls, minD_ls, maxD_ls, List.length_map, List.length_append, List.length_set, envD, List.map_cons, List.map_nil, List.replicate_succ, List.replicate_zero, $[$ts:term],*])
/-! ### the judge of papers -/
def jp : List Int → Nat → List D → D
  | row, _, [] => if 1 < mn row then .str "endless" else .list [.str "rest"]
  | row, at_, x :: r => match x with
    | .int i => if 0 ≤ i ∧ i < row.length ∧ row.length ≠ 1 ∧ row.getD i.toNat 0 = 1 then jp (wo row i.toNat) (at_ + 1) r else .list [.int at_]
    | _ => .list [.int at_]
def jm (ns : List Int) : D → D → D
  | .int i, .int j => if 0 ≤ i ∧ i < ns.length ∧ i + 2 ≤ j ∧ j ≤ i + 3 * ns.length then (if en (rd ns) i.toNat (j - i).toNat < 1 then .str "ends" else .list [.str "entry"]) else .list [.str "mark"]
  | _, _ => .list [.str "mark"]
def jb (ns : List Int) : D → D
  | .tuple ps => jp ns 0 ps
  | _ => .list [.str "places"]
def j2 (ns : List Int) : D → D → D
  | .str s, b => if s = "endless" then jb ns b else .list [.none]
  | _, _ => .list [.none]
def j3 (ns : List Int) : D → D → D → D
  | .str s, b, c => if s = "ends" then jm ns b c else .list [.none]
  | _, _, _ => .list [.none]
def jt (ns : List Int) : List D → D
  | [a, b] => j2 ns a b
  | [a, b, c] => j3 ns a b c
  | _ => .list [.none]
def jd (ns : List Int) : D → D
  | .tuple xs => jt ns xs
  | _ => .list [.none]
theorem se : ¬ (("endless" : Str) = "ends") := by decide +kernel
theorem se' : ¬ (("ends" : Str) = "endless") := by decide +kernel
theorem iw_rng {x : D} {n : Nat} : iw x 0 ((n : Int) - 1) = match x with | .int i => decide (0 ≤ i) && decide (i < n) | _ => false := by
  cases x with
  | int i => simp only [iw]; congr 1; exact decide_eq_decide.mpr (by omega)
  | _ => rfl
theorem notIn23 {k : Int} : notInD (.int k) (.tuple [.int 2, .int 3]) = some (.bool (!(decide (k = 2) || decide (k = 3)))) := by
  unfold notInD
  simp only [pl_int]
  rw [show pl 60 (.tuple [.int 2, .int 3]) = true from rfl]
  simp only [Bool.and_self, if_true, List.any_cons, List.any_nil, PyData.eqv, Bool.or_false]
  congr 4 <;> (apply decide_eq_decide.mpr; omega)
theorem notInE {s : Str} {k : Int} (hs : PyData.strOk s = true) : notInD (.tuple [.str s, .int k]) (.tuple [.tuple [.str "endless", .int 2], .tuple [.str "ends", .int 3]]) = some (.bool (!((decide (s = "endless") && decide (k = 2)) || (decide (s = "ends") && decide (k = 3))))) := by
  unfold notInD
  rw [show pl 60 (.tuple [.tuple [.str "endless", .int 2], .tuple [.str "ends", .int 3]]) = true from by decide +kernel]
  rw [show pl 60 (.tuple [.str s, .int k]) = true from by simp [pl, hs]]
  simp only [Bool.and_self, if_true, List.any_cons, List.any_nil, PyData.eqv, PyData.eqvAll, Bool.or_false, Bool.and_true]
  have e1 : ∀ t : Str, (t == s) = decide (s = t) := fun t => by
    by_cases c : s = t
    · subst c; simp
    · rw [decide_eq_false c]; exact beq_false_of_ne fun z => c z.symm
  have e2 : ∀ t : Int, (t == k) = decide (k = t) := fun t => by
    by_cases c : k = t
    · subst c; simp
    · rw [decide_eq_false c]; exact beq_false_of_ne fun z => c z.symm
  rw [e1, e1, e2, e2]
theorem pl_mono : ∀ {n m : Nat} {d : D}, n ≤ m → pl n d = true → pl m d = true
  | n, m, .none, _, _ => pl_none
  | n, m, .bool _, _, _ => pl_bool
  | n, m, .int _, _, _ => pl_int
  | n, m, .str x, _, h => by
    have : PyData.strOk x = true := by cases n <;> exact h
    cases m <;> exact this
  | n, m, .dict _, _, h => by cases n <;> simp [pl] at h
  | 0, m, .list _, _, h => by simp [pl] at h
  | 0, m, .tuple _, _, h => by simp [pl] at h
  | n + 1, m, .list xs, l, h => by
    obtain ⟨m', rfl⟩ : ∃ m', m = m' + 1 := ⟨m - 1, by omega⟩
    rw [pl_list] at h ⊢
    rw [List.all_eq_true] at h ⊢
    exact fun x hx => pl_mono (by omega) (h x hx)
  | n + 1, m, .tuple xs, l, h => by
    obtain ⟨m', rfl⟩ : ∃ m', m = m' + 1 := ⟨m - 1, by omega⟩
    rw [pl_tuple] at h ⊢
    rw [List.all_eq_true] at h ⊢
    exact fun x hx => pl_mono (by omega) (h x hx)
theorem pl_nd {n : Nat} {d : D} (h : pl n d = true) : nd d = true := by
  cases d with
  | dict _ => cases n <;> simp [pl] at h
  | _ => rfl
theorem pl_str {n : Nat} {s : Str} (h : pl n (.str s) = true) : PyData.strOk s = true := by cases n <;> exact h
theorem neD_nil {l : List D} (h : pl 60 (.list l) = true) : neD (.list l) (.list []) = some (.bool (!l.isEmpty)) := by
  unfold neD
  rw [h, show pl 60 (.list []) = true from rfl]
  cases l <;> rfl
theorem endless_ok : PyData.strOk "endless" = true := by decide +kernel
theorem ends_ok : PyData.strOk "ends" = true := by decide +kernel
theorem lin_last (ns : List Int) (i s : Nat) : L2.atI ((lin ns i s).map PyData.int) (-1) = some (.int (en (rd ns) i s)) := by
  unfold lin
  rw [atI_intsN (by omega) (by simp; omega), show (-1 + (((List.range (s + 1)).map (en (rd ns) i)).length : Int)).toNat = s by simp; omega, rng_getD (by omega)]
/-- the law's look at a paper -/
theorem due_ok {ns : List Int} (h : Row ns) {x : D} (hx : pl 60 x = true) : res (f__law_due [ts ns, x]) = .ok (jd ns x) := by
  have h1 := h.one
  have h2 := h.le
  have nt : ∀ {y : D}, isiD "tuple" y = some (.bool false) → res (f__law_due [ts ns, y]) = .ok (.list [.none]) := fun {y} hy => by
    apply res_ok
    unfold f__law_due
    apply W_b2
    unfold b__law_due ts
    (wp_walk using hy)
  match x, hx with
  | .none, _ => exact nt rfl
  | .bool _, _ => exact nt rfl
  | .int _, _ => exact nt rfl
  | .str _, _ => exact nt rfl
  | .list _, _ => exact nt rfl
  | .dict _, hx => cases pl_nd hx
  | .tuple xs, hx =>
    have long : ∀ {ys : List D}, ys.length ≠ 2 → ys.length ≠ 3 → res (f__law_due [ts ns, .tuple ys]) = .ok (.list [.none]) := fun {ys} c1 c2 => by
      apply res_ok
      unfold f__law_due
      apply W_b2
      unfold b__law_due ts
      (wp_walk using notIn23, show ¬ ((ys.length : Int) = 2) by omega, show ¬ ((ys.length : Int) = 3) by omega)
    have ns2 : ∀ {a : D} {ys : List D}, isiD "str" a = some (.bool false) → ys.length = 1 ∨ ys.length = 2 → res (f__law_due [ts ns, .tuple (a :: ys)]) = .ok (.list [.none]) := fun {a ys} ha c => by
      apply res_ok
      unfold f__law_due
      apply W_b2
      unfold b__law_due ts
      rcases c with c | c
      · (wp_walk using notIn23, c, atI_lit0, ha)
      · (wp_walk using notIn23, c, atI_lit0, ha)
    match xs, hx with
    | [], _ => exact long (ys := []) (by simp) (by simp)
    | [a], _ => exact long (ys := [a]) (by simp) (by simp)
    | a :: b :: c :: d :: r, _ => exact long (ys := a :: b :: c :: d :: r) (by simp) (by simp)
    | [a, b], hx =>
      match a, hx with
      | .none, _ => exact ns2 rfl (.inl rfl)
      | .bool _, _ => exact ns2 rfl (.inl rfl)
      | .int _, _ => exact ns2 rfl (.inl rfl)
      | .list _, _ => exact ns2 rfl (.inl rfl)
      | .tuple _, _ => exact ns2 rfl (.inl rfl)
      | .dict _, hx => rw [show (60 : Nat) = 59 + 1 from rfl, pl_tuple] at hx; simp [pl] at hx
      | .str s, hx =>
        rw [show (60 : Nat) = 59 + 1 from rfl, pl_tuple] at hx
        simp only [List.all_cons, List.all_nil, Bool.and_true, Bool.and_eq_true] at hx
        have hs := pl_str hx.1
        by_cases c : s = "endless"
        · subst c
          by_cases ct : ∃ ps, b = .tuple ps
          · obtain ⟨ps, rfl⟩ := ct
            have ej : jd ns (.tuple [.str "endless", .tuple ps]) = jp ns 0 ps := rfl
            rw [ej]
            apply res_ok
            unfold f__law_due
            apply W_b2
            unfold b__law_due ts
            (wp_walk using notIn23, atI_lit0, atI_lit1, notInE hs, eqD_str endless_ok ends_ok, se)
            refine W_for (fun k ρ => ∃ row ρ5 ρ6, ρ = [some (ts ns), some (.tuple [.str "endless", .tuple ps]), some (.int ns.length), none, some (ls row), ρ5, ρ6] ∧ 1 ≤ row.length ∧ row.length ≤ 24 ∧ jp row k (ps.drop k) = jp ns 0 ps) ⟨ns, none, none, rfl, h1, h2, rfl⟩ (fun k y ρ hy ⟨row, ρ5, ρ6, e, r1, r2, hj⟩ => ?_) fun ρ ⟨row, ρ5, ρ6, e, r1, r2, hj⟩ => ?_
            · subst e
              rw [numL_get] at hy
              cases hq : ps[k]? with
              | none => rw [hq] at hy; cases hy
              | some q =>
                rw [hq] at hy
                cases hy
                have hd : ps.drop k = q :: ps.drop (k + 1) := by
                  rw [← List.getElem_cons_drop (h := (List.getElem?_eq_some_iff.mp hq).1), (List.getElem?_eq_some_iff.mp hq).2]
                have hp : pl 59 (.tuple ps) = true := hx.2
                rw [show (59 : Nat) = 58 + 1 from rfl, pl_tuple, List.all_eq_true] at hp
                have hpq := hp q (List.mem_of_getElem? hq)
                rw [hd] at hj
                have bad : (∀ i, q ≠ .int i) → jp ns 0 ps = .list [.int k] := fun c => by
                  rw [← hj]
                  cases q with
                  | int i => exact absurd rfl (c i)
                  | _ => rfl
                cases q with
                | dict _ => cases pl_nd hpq
                | int i =>
                  unfold ts ls
                  have hj' : (if 0 ≤ i ∧ i < row.length ∧ row.length ≠ 1 ∧ row.getD i.toNat 0 = 1 then jp (wo row i.toNat) (k + 1) (ps.drop (k + 1)) else .list [.int k]) = jp ns 0 ps := hj
                  wp_walk
                  refine WI_dec (fun a1 => ?_) (fun a1 => ?_)
                  · wp_walk
                    refine WI_ndec (fun a2 => ?_) (fun a2 => ?_)
                    · wp_walk
                      refine WI_dec (fun a3 => ?_) (fun a3 => ?_)
                      · wp_walk
                        rw [← hj', if_neg (by omega)]
                      · (wp_walk using atI_ints (ns := row) a1 a2)
                        refine WI_ndec (fun a4 => ?_) (fun a4 => ?_)
                        · have hw := law_without_ok (row := row) (p := i.toNat) (by omega) (by omega)
                          rw [show ((i.toNat : Nat) : Int) = i by omega] at hw
                          unfold ls at hw
                          (wp_walk using hw)
                          rw [if_pos ⟨a1, a2, by omega, a4⟩] at hj'
                          exact ⟨wo row i.toNat, some (.int k), some (.int i), rfl, by rw [wo_len _ _ (by omega)]; omega, by rw [wo_len _ _ (by omega)]; omega, hj'⟩
                        · wp_walk
                          rw [← hj', if_neg fun z => a4 z.2.2.2]
                    · wp_walk
                      rw [← hj', if_neg fun z => a2 z.2.1]
                  · wp_walk
                    rw [← hj', if_neg fun z => a1 z.1]
                | _ =>
                  have b := bad (fun i e => by cases e)
                  wp_walk
                  first | rw [b] | (refine ⟨by omega, ?_⟩; rw [b])
            · subst e
              rw [numL_n, List.drop_length] at hj
              have hj' : (if 1 < mn row then PyData.str "endless" else .list [.str "rest"]) = jp ns 0 ps := hj
              unfold ts ls
              (wp_walk using minL_mn (nil_ne r1))
              refine WI_dec (fun a1 => ?_) (fun a1 => ?_)
              · wp_walk
                rw [← hj', if_pos a1]
              · wp_walk
                rw [← hj', if_neg a1]
          · have ib : isiD "tuple" b = some (.bool false) := by
              cases b with
              | tuple ps => exact absurd ⟨ps, rfl⟩ ct
              | dict _ => cases pl_nd hx.2
              | _ => rfl
            have ej : jd ns (.tuple [.str "endless", b]) = .list [.str "places"] := by
              cases b with
              | tuple ps => exact absurd ⟨ps, rfl⟩ ct
              | _ => rfl
            rw [ej]
            apply res_ok
            unfold f__law_due
            apply W_b2
            unfold b__law_due ts
            (wp_walk using notIn23, atI_lit0, atI_lit1, notInE hs, ib, eqD_str endless_ok ends_ok, se)
        · have ej : jd ns (.tuple [.str s, b]) = .list [.none] := if_neg c
          rw [ej]
          apply res_ok
          unfold f__law_due
          apply W_b2
          unfold b__law_due ts
          (wp_walk using notIn23, atI_lit0, notInE hs, c)
    | [a, b, c], hx =>
      match a, hx with
      | .none, _ => exact ns2 rfl (.inr rfl)
      | .bool _, _ => exact ns2 rfl (.inr rfl)
      | .int _, _ => exact ns2 rfl (.inr rfl)
      | .list _, _ => exact ns2 rfl (.inr rfl)
      | .tuple _, _ => exact ns2 rfl (.inr rfl)
      | .dict _, hx => rw [show (60 : Nat) = 59 + 1 from rfl, pl_tuple] at hx; simp [pl] at hx
      | .str s, hx =>
        rw [show (60 : Nat) = 59 + 1 from rfl, pl_tuple] at hx
        simp only [List.all_cons, List.all_nil, Bool.and_true, Bool.and_eq_true] at hx
        have hs := pl_str hx.1
        by_cases ce : s = "ends"
        · subst ce
          have ej : jd ns (.tuple [.str "ends", b, c]) = jm ns b c := rfl
          rw [ej]
          apply res_ok
          unfold f__law_due
          apply W_b2
          unfold b__law_due ts
          -- which parts are no ints
          let g : D → Option D := fun x => match x with | .int _ => none | x => some x
          have hg : ∀ y : D, nd y = true → ∀ ρ, W (lcT (tgN 3) (orT (notT (test (un (isiD "int") (var 3)))) (test (un (isiD "bool") (var 3)))) (var 3) y [some ρ, some (.tuple [.str "ends", b, c]), some (.int ns.length), none, none, none, none]) (fun o ρ3 => o = g y ∧ forget [3] ρ3 = [some ρ, some (.tuple [.str "ends", b, c]), some (.int ns.length), none, none, none, none]) (fun _ _ _ => False) := fun y hy ρ => by
            cases y with
            | dict _ => cases hy
            | _ =>
              wp_walk
              first | rfl | exact ⟨rfl, rfl⟩
          (wp_walk using notIn23, atI_lit0, atI_lit1, notInE hs, se', eqD_self (d := .str "ends") (by decide +kernel))
          have cb : cutL [PyData.str "ends", b, c] (some 1) none = [b, c] := rfl
          refine W_lcQ [b, c] g ?_ (by simp [lineN]) (fun y hy => hg y ?_ _) ?_
          · (wp_walk using cb)
          · rcases List.mem_cons.mp hy with rfl | hy
            · exact pl_nd hx.2.1
            · rw [List.mem_singleton.mp hy]; exact pl_nd hx.2.2
          have plg : pl 60 (.list ([b, c].filterMap g)) = true := by
            rw [show (60 : Nat) = 59 + 1 from rfl, pl_list, List.all_eq_true]
            intro y hy
            obtain ⟨z, hz, e⟩ := List.mem_filterMap.mp hy
            have ez : y = z := by
              cases z <;> first | cases e; rfl | cases e
            subst ez
            rcases List.mem_cons.mp hz with rfl | hz
            · exact hx.2.1
            · rw [List.mem_singleton.mp hz]; exact hx.2.2
          (wp_walk using neD_nil plg)
          by_cases ci : (∃ i, b = .int i) ∧ ∃ j, c = .int j
          · obtain ⟨⟨i, rfl⟩, j, rfl⟩ := ci
            have e0 : [PyData.int i, PyData.int j].filterMap g = [] := rfl
            rw [e0]
            (wp_walk using List.isEmpty_nil, atI_lit1, atI_lit2, wide_l (i := 3) (j := (ns.length : Int)) (by decide))
            have ejm : jm ns (.int i) (.int j) = if 0 ≤ i ∧ i < ns.length ∧ i + 2 ≤ j ∧ j ≤ i + 3 * ns.length then (if en (rd ns) i.toNat (j - i).toNat < 1 then .str "ends" else .list [.str "entry"]) else .list [.str "mark"] := rfl
            refine WI_dec (fun a1 => ?_) (fun a1 => ?_)
            · wp_walk
              refine WI_ndec (fun a2 => ?_) (fun a2 => ?_)
              · (wp_walk using atI_lit1, atI_lit2, wide_l (i := 3) (j := (ns.length : Int)) (by decide))
                refine WI_dec (fun a3 => ?_) (fun a3 => ?_)
                · (wp_walk using atI_lit1, atI_lit2, wide_l (i := 3) (j := (ns.length : Int)) (by decide))
                  refine WI_ndec (fun a4 => ?_) (fun a4 => ?_)
                  · have hw := law_line_ok h i.toNat (j - i).toNat (by omega)
                    rw [show ((i.toNat : Nat) : Int) = i by omega, show (((j - i).toNat : Nat) : Int) = j - i by omega] at hw
                    unfold ts ls at hw
                    (wp_walk using atI_lit1, atI_lit2, hw, lin_last)
                    rw [if_pos ⟨a1, a2, a3, a4⟩] at ejm
                    refine WI_dec (fun a5 => ?_) (fun a5 => ?_)
                    · wp_walk
                      rw [ejm, if_pos a5]
                    · wp_walk
                      rw [ejm, if_neg a5]
                  · wp_walk
                    rw [ejm, if_neg fun z => a4 z.2.2.2]
                · wp_walk
                  rw [ejm, if_neg fun z => a3 z.2.2.1]
              · wp_walk
                rw [ejm, if_neg fun z => a2 z.2.1]
            · wp_walk
              rw [ejm, if_neg fun z => a1 z.1]
          · have ne : ([b, c].filterMap g).isEmpty = false := by
              cases b <;> first | rfl | (cases c <;> first | rfl | exact absurd ⟨⟨_, rfl⟩, _, rfl⟩ ci)
            have em : jm ns b c = .list [.str "mark"] := by
              cases b <;> first | rfl | (cases c <;> first | rfl | exact absurd ⟨⟨_, rfl⟩, _, rfl⟩ ci)
            rw [em]
            (wp_walk using ne)
        · have ej : jd ns (.tuple [.str s, b, c]) = .list [.none] := if_neg ce
          rw [ej]
          apply res_ok
          unfold f__law_due
          apply W_b2
          unfold b__law_due ts
          (wp_walk using notIn23, atI_lit0, notInE hs, ce)
/-- a refusal, or the word -/
def jr : D → Rz
  | .list [y] => .err "BadPaper" y
  | d => .ok d
/-- the program's look at a paper -/
theorem check_ok {ns : List Int} (h : Row ns) {x : D} (hx : pl 60 x = true) : res (f_check_endless [ts ns, x]) = jr (jd ns x) := by
  have h1 := h.one
  have h2 := h.le
  have hn := need_ok h
  unfold ts at hn
  have nt : ∀ {y : D}, isiD "tuple" y = some (.bool false) → res (f_check_endless [ts ns, y]) = jr (.list [.none]) := fun {y} hy => by
    apply res_any
    unfold f_check_endless
    apply W_b2
    unfold b_check_endless ts
    (wp_walk using hn, hy)
    rfl
  match x, hx with
  | .none, _ => exact nt rfl
  | .bool _, _ => exact nt rfl
  | .int _, _ => exact nt rfl
  | .str _, _ => exact nt rfl
  | .list _, _ => exact nt rfl
  | .dict _, hx => cases pl_nd hx
  | .tuple xs, hx =>
    have long : ∀ {ys : List D}, ys.length ≠ 2 → ys.length ≠ 3 → res (f_check_endless [ts ns, .tuple ys]) = jr (.list [.none]) := fun {ys} c1 c2 => by
      apply res_any
      unfold f_check_endless
      apply W_b2
      unfold b_check_endless ts
      (wp_walk using hn)
      refine WI_dec (fun a1 => ?_) (fun a1 => ?_)
      · wp_walk
        refine WI_ndec (fun a2 => ?_) (fun a2 => ?_)
        · omega
        · wp_walk
          rfl
      · wp_walk
        rfl
    have ns2 : ∀ {a : D} {ys : List D}, isiD "str" a = some (.bool false) → ys.length = 1 ∨ ys.length = 2 → res (f_check_endless [ts ns, .tuple (a :: ys)]) = jr (.list [.none]) := fun {a ys} ha c => by
      apply res_any
      unfold f_check_endless
      apply W_b2
      unfold b_check_endless ts
      rcases c with c | c
      · (wp_walk using hn, c, atI_lit0, ha)
        rfl
      · (wp_walk using hn, c, atI_lit0, ha)
        rfl
    match xs, hx with
    | [], _ => exact long (ys := []) (by simp) (by simp)
    | [a], _ => exact long (ys := [a]) (by simp) (by simp)
    | a :: b :: c :: d :: r, _ => exact long (ys := a :: b :: c :: d :: r) (by simp) (by simp)
    | [a, b], hx =>
      match a, hx with
      | .none, _ => exact ns2 rfl (.inl rfl)
      | .bool _, _ => exact ns2 rfl (.inl rfl)
      | .int _, _ => exact ns2 rfl (.inl rfl)
      | .list _, _ => exact ns2 rfl (.inl rfl)
      | .tuple _, _ => exact ns2 rfl (.inl rfl)
      | .dict _, hx => rw [show (60 : Nat) = 59 + 1 from rfl, pl_tuple] at hx; simp [pl] at hx
      | .str s, hx =>
        rw [show (60 : Nat) = 59 + 1 from rfl, pl_tuple] at hx
        simp only [List.all_cons, List.all_nil, Bool.and_true, Bool.and_eq_true] at hx
        have hs := pl_str hx.1
        by_cases c : s = "endless"
        · subst c
          by_cases ct : ∃ ps, b = .tuple ps
          · obtain ⟨ps, rfl⟩ := ct
            have ej : jd ns (.tuple [.str "endless", .tuple ps]) = jp ns 0 ps := rfl
            rw [ej]
            apply res_any
            unfold f_check_endless
            apply W_b2
            unfold b_check_endless ts
            (wp_walk using hn, atI_lit0, atI_lit1, notInE hs, eqD_str endless_ok ends_ok, se, show decide (0 ≤ (ns.length : Int)) = true by simp, show decide ((ns.length : Int) ≤ 16777216) = true by simp; omega)
            refine W_for (fun k ρ => ∃ ms row ρ5 ρ6, ρ = [some (ts ns), some (.tuple [.str "endless", .tuple ps]), none, some (ls (nz ms)), some (ls row), ρ5, ρ6] ∧ ms.length = row.length ∧ 1 ≤ row.length ∧ row.length ≤ 24 ∧ jp row k (ps.drop k) = jp ns 0 ps) ⟨List.range ns.length, ns, none, none, by rw [Int.toNat_natCast, rngL_nz]; rfl, by simp, h1, h2, rfl⟩ (fun k y ρ hy ⟨ms, row, ρ5, ρ6, e, lm, r1, r2, hj⟩ => ?_) fun ρ ⟨ms, row, ρ5, ρ6, e, lm, r1, r2, hj⟩ => ?_
            · subst e
              rw [numL_get] at hy
              cases hq : ps[k]? with
              | none => rw [hq] at hy; cases hy
              | some q =>
                rw [hq] at hy
                cases hy
                have hd : ps.drop k = q :: ps.drop (k + 1) := by
                  rw [← List.getElem_cons_drop (h := (List.getElem?_eq_some_iff.mp hq).1), (List.getElem?_eq_some_iff.mp hq).2]
                have hp : pl 59 (.tuple ps) = true := hx.2
                rw [show (59 : Nat) = 58 + 1 from rfl, pl_tuple, List.all_eq_true] at hp
                have hpq := hp q (List.mem_of_getElem? hq)
                rw [hd] at hj
                have wq := is_whole_ok (x := q) (a := 0) (b := (row.length : Int) - 1) (pl_nd hpq)
                rw [iw_rng] at wq
                have bad : (∀ i, q ≠ .int i) → jp ns 0 ps = .list [.int k] := fun c => by
                  rw [← hj]
                  cases q with
                  | int i => exact absurd rfl (c i)
                  | _ => rfl
                unfold ts ls
                cases q with
                | dict _ => cases pl_nd hpq
                | int i =>
                  have hj' : (if 0 ≤ i ∧ i < row.length ∧ row.length ≠ 1 ∧ row.getD i.toNat 0 = 1 then jp (wo row i.toNat) (k + 1) (ps.drop (k + 1)) else .list [.int k]) = jp ns 0 ps := hj
                  simp only [] at wq
                  (wp_walk using wq)
                  by_cases a12 : 0 ≤ i ∧ i < row.length
                  · (wp_walk using a12.1, a12.2, atI_ints (ns := row) a12.1 a12.2)
                    refine WI_ndec (fun a4 => ?_) (fun a4 => ?_)
                    · wp_walk
                      refine WI_dec (fun a3 => ?_) (fun a3 => ?_)
                      · wp_walk
                        rw [← hj', if_neg (by omega)]; rfl
                      · have hw := own_step_ok (ms := ms) (row := row) (p := i.toNat) lm (by omega) (by omega)
                        rw [show ((i.toNat : Nat) : Int) = i by omega] at hw
                        unfold ls at hw
                        (wp_walk using hw)
                        rw [if_pos ⟨a12.1, a12.2, by omega, a4⟩] at hj'
                        refine ⟨ms.eraseIdx i.toNat, wo row i.toNat, some (.int k), some (.int i), rfl, ?_, ?_, ?_, hj'⟩
                        · rw [List.length_eraseIdx, if_pos (by omega), wo_len _ _ (by omega)]; omega
                        · rw [wo_len _ _ (by omega)]; omega
                        · rw [wo_len _ _ (by omega)]; omega
                    · wp_walk
                      rw [← hj', if_neg fun z => a4 z.2.2.2]; rfl
                  · have e0 : (decide (0 ≤ i) && decide (i < (row.length : Int))) = false := by
                      rw [← Bool.decide_and]; exact decide_eq_false a12
                    (wp_walk using e0)
                    rw [← hj', if_neg fun z => a12 ⟨z.1, z.2.1⟩]; rfl
                | _ =>
                  have b := bad (fun i e => by cases e)
                  simp only [] at wq
                  (wp_walk using wq)
                  rw [b]; rfl
            · subst e
              rw [numL_n, List.drop_length] at hj
              have hj' : (if 1 < mn row then PyData.str "endless" else .list [.str "rest"]) = jp ns 0 ps := hj
              unfold ts ls
              (wp_walk using minL_mn (nil_ne r1))
              refine WI_dec (fun a1 => ?_) (fun a1 => ?_)
              · wp_walk
                rw [← hj', if_neg (by omega)]; rfl
              · wp_walk
                rw [← hj', if_pos (by omega)]; rfl
          · have ib : isiD "tuple" b = some (.bool false) := by
              cases b with
              | tuple ps => exact absurd ⟨ps, rfl⟩ ct
              | dict _ => cases pl_nd hx.2
              | _ => rfl
            have ej : jd ns (.tuple [.str "endless", b]) = .list [.str "places"] := by
              cases b with
              | tuple ps => exact absurd ⟨ps, rfl⟩ ct
              | _ => rfl
            rw [ej]
            apply res_any
            unfold f_check_endless
            apply W_b2
            unfold b_check_endless ts
            (wp_walk using hn, atI_lit0, atI_lit1, notInE hs, ib, eqD_str endless_ok ends_ok, se)
            rfl
        · have ej : jd ns (.tuple [.str s, b]) = .list [.none] := if_neg c
          rw [ej]
          apply res_any
          unfold f_check_endless
          apply W_b2
          unfold b_check_endless ts
          (wp_walk using hn, atI_lit0, notInE hs, c)
          rfl
    | [a, b, c], hx =>
      match a, hx with
      | .none, _ => exact ns2 rfl (.inr rfl)
      | .bool _, _ => exact ns2 rfl (.inr rfl)
      | .int _, _ => exact ns2 rfl (.inr rfl)
      | .list _, _ => exact ns2 rfl (.inr rfl)
      | .tuple _, _ => exact ns2 rfl (.inr rfl)
      | .dict _, hx => rw [show (60 : Nat) = 59 + 1 from rfl, pl_tuple] at hx; simp [pl] at hx
      | .str s, hx =>
        rw [show (60 : Nat) = 59 + 1 from rfl, pl_tuple] at hx
        simp only [List.all_cons, List.all_nil, Bool.and_true, Bool.and_eq_true] at hx
        have hs := pl_str hx.1
        by_cases ce : s = "ends"
        · subst ce
          have ej : jd ns (.tuple [.str "ends", b, c]) = jm ns b c := rfl
          rw [ej]
          apply res_any
          unfold f_check_endless
          apply W_b2
          unfold b_check_endless ts
          have wb := is_whole_ok (x := b) (a := 0) (b := (ns.length : Int) - 1) (pl_nd hx.2.1)
          rw [iw_rng] at wb
          by_cases cb : ∃ i, b = .int i
          · obtain ⟨i, rfl⟩ := cb
            have wc := is_whole_ok (x := c) (a := i + 2) (b := i + 3 * (ns.length : Int)) (pl_nd hx.2.2)
            simp only [] at wb
            (wp_walk using hn, atI_lit0, atI_lit1, notInE hs, se', eqD_self (d := .str "ends") (by decide +kernel), wb)
            by_cases a12 : 0 ≤ i ∧ i < ns.length
            · (wp_walk using a12.1, a12.2, atI_lit1, atI_lit2, wide_l (i := 3) (j := (ns.length : Int)) (by decide), wc)
              by_cases cc : ∃ j, c = .int j
              · obtain ⟨j, rfl⟩ := cc
                have ejm : jm ns (.int i) (.int j) = if 0 ≤ i ∧ i < ns.length ∧ i + 2 ≤ j ∧ j ≤ i + 3 * ns.length then (if en (rd ns) i.toNat (j - i).toNat < 1 then .str "ends" else .list [.str "entry"]) else .list [.str "mark"] := rfl
                have ew : iw (.int j) (i + 2) (i + 3 * (ns.length : Int)) = (decide (i + 2 ≤ j) && decide (j ≤ i + 3 * (ns.length : Int))) := rfl
                by_cases a34 : i + 2 ≤ j ∧ j ≤ i + 3 * ns.length
                · have hw := own_entry_ok h i.toNat (j - i).toNat (by omega)
                  rw [show ((i.toNat : Nat) : Int) = i by omega, show ((i.toNat + (j - i).toNat : Nat) : Int) = j by omega] at hw
                  unfold ts at hw
                  rw [if_pos ⟨a12.1, a12.2, a34.1, a34.2⟩] at ejm
                  (wp_walk using ew, a34.1, a34.2, hw, atI_lit1, atI_lit2)
                  refine WI_dec (fun a5 => ?_) (fun a5 => ?_)
                  · wp_walk
                    rw [ejm, if_neg (by omega)]; rfl
                  · wp_walk
                    rw [ejm, if_pos (by omega)]; rfl
                · have e0 : (decide (i + 2 ≤ j) && decide (j ≤ i + 3 * (ns.length : Int))) = false := by
                    rw [← Bool.decide_and]; exact decide_eq_false a34
                  (wp_walk using ew, e0)
                  rw [ejm, if_neg fun z => a34 ⟨z.2.2.1, z.2.2.2⟩]; rfl
              · have em : jm ns (.int i) c = .list [.str "mark"] := by
                  cases c <;> first | rfl | exact absurd ⟨_, rfl⟩ cc
                have ew : iw c (i + 2) (i + 3 * (ns.length : Int)) = false := by
                  cases c <;> first | rfl | exact absurd ⟨_, rfl⟩ cc
                (wp_walk using ew)
                rw [em]; rfl
            · have e0 : (decide (0 ≤ i) && decide (i < (ns.length : Int))) = false := by
                rw [← Bool.decide_and]; exact decide_eq_false a12
              have em : jm ns (.int i) c = .list [.str "mark"] := by
                cases c with
                | int j => exact if_neg fun z => a12 ⟨z.1, z.2.1⟩
                | _ => rfl
              (wp_walk using e0)
              rw [em]; rfl
          · have em : jm ns b c = .list [.str "mark"] := by
              cases b <;> first | rfl | exact absurd ⟨_, rfl⟩ cb
            have e0 : iw b 0 ((ns.length : Int) - 1) = false := by
              cases b <;> first | rfl | exact absurd ⟨_, rfl⟩ cb
            have wb := is_whole_ok (x := b) (a := 0) (b := (ns.length : Int) - 1) (pl_nd hx.2.1)
            rw [e0] at wb
            (wp_walk using hn, atI_lit0, atI_lit1, notInE hs, se', eqD_self (d := .str "ends") (by decide +kernel), wb)
            rw [em]; rfl
        · have ej : jd ns (.tuple [.str s, b, c]) = .list [.none] := if_neg ce
          rw [ej]
          apply res_any
          unfold f_check_endless
          apply W_b2
          unfold b_check_endless ts
          (wp_walk using hn, atI_lit0, notInE hs, ce)
          rfl
theorem jd_shape (ns : List Int) (x : D) : (∃ s, PyData.strOk s = true ∧ jd ns x = .str s) ∨ ∃ y, pl 1 y = true ∧ jd ns x = .list [y] := by
  have so : ∀ s : Str, PyData.strOk s = true → pl 1 (.str s) = true := fun s h => h
  have a1 : PyData.strOk "mark" = true := by decide +kernel
  have a2 : PyData.strOk "entry" = true := by decide +kernel
  have a3 : PyData.strOk "rest" = true := by decide +kernel
  have a4 : PyData.strOk "places" = true := by decide +kernel
  have hm : ∀ b c, (∃ s, PyData.strOk s = true ∧ jm ns b c = .str s) ∨ ∃ y, pl 1 y = true ∧ jm ns b c = .list [y] := fun b c => by
    unfold jm
    split
    · split
      · split
        · exact .inl ⟨_, ends_ok, rfl⟩
        · exact .inr ⟨_, so _ a2, rfl⟩
      · exact .inr ⟨_, so _ a1, rfl⟩
    · exact .inr ⟨_, so _ a1, rfl⟩
  have hp : ∀ (ps : List D) (row : List Int) (k : Nat), (∃ s, PyData.strOk s = true ∧ jp row k ps = .str s) ∨ ∃ y, pl 1 y = true ∧ jp row k ps = .list [y] := fun ps => by
    induction ps with
    | nil =>
      intro row k
      unfold jp
      split
      · exact .inl ⟨_, endless_ok, rfl⟩
      · exact .inr ⟨_, so _ a3, rfl⟩
    | cons q ps ih =>
      intro row k
      unfold jp
      split
      · split
        · exact ih _ _
        · exact .inr ⟨_, rfl, rfl⟩
      · exact .inr ⟨_, rfl, rfl⟩
  have nn : (∃ s, PyData.strOk s = true ∧ (PyData.list [.none]) = .str s) ∨ ∃ y, pl 1 y = true ∧ (PyData.list [.none]) = .list [y] := .inr ⟨_, rfl, rfl⟩
  unfold jd
  split
  · unfold jt
    split
    · unfold j2
      split
      · split
        · unfold jb
          split
          · exact hp _ _ _
          · exact .inr ⟨_, so _ a4, rfl⟩
        · exact nn
      · exact nn
    · unfold j3
      split
      · split
        · exact hm _ _
        · exact nn
      · exact nn
    · exact nn
  · exact nn
theorem jd_pl (ns : List Int) (x : D) : pl 60 (jd ns x) = true := by
  rcases jd_shape ns x with ⟨s, h, e⟩ | ⟨y, h, e⟩
  · rw [e]; exact h
  · rw [e, show (60 : Nat) = 59 + 1 from rfl, pl_list]
    simp only [List.all_cons, List.all_nil, Bool.and_true]
    exact pl_mono (by omega) h
theorem told_ok {ns : List Int} (h : Row ns) {x : D} (hx : pl 60 x = true) : res (f__law_told [ts ns, x]) = .ok (jd ns x) := by
  have hc := check_ok h hx
  apply res_ok
  unfold f__law_told
  apply W_b2
  unfold b__law_told
  rcases jd_shape ns x with ⟨s, _, e⟩ | ⟨y, _, e⟩
  · rw [e] at hc ⊢
    (wp_walk using hc, jr)
  · rw [e] at hc ⊢
    (wp_walk using hc, jr)
end K60

/-! K60R -/
set_option Elab.async false
set_option linter.all false
set_option maxRecDepth 100000
set_option maxHeartbeats 4000000
namespace K60
open PySem Dn
local macro_rules
  | `(tactic| wp_walk) => `(tactic| simp only [W_ok, W_err, WR_ok, WR_err, WO_some, WI_true, WI_false, W_bnd, W_ret, W_lft, slot_some, W_var, W_lit, W_un, W_bin, W_app, W_itV, W_itA, W_nilA, W_consA, W_tupE, W_lstE, W_test, W_testB, W_notT, W_andT, W_orT, W_andV, W_orV, W_notV, W_ifE, W_chn, W_sliU, W_noPart, W_part, W_sq, W_nx, W_asg, W_drp, W_rtn, W_ifS, W_rai, W_fgt, forget_nil, forget_cons, restore_nil, restore_cons, List.getD_cons_zero, List.getD_cons_succ, W_brkS, W_cntS, W_asgL, setE_cons, setE_nil, setE_nil', W_asgT, W_tgN, W_tgT, W_tgs_nil, W_tgs_cons, W_chk, W_updI, W_appS, W_setS, W_setS2, W_augS, W_putS, W_popM, W_popE, W_popAtE, W_idxE, W_lrgE, W_pairs_nil, W_pairs_cons, W_dispE, W_callE, W_callK, W_callIO, W_tryS, W_forS, W_lcT, W_noT, List.getElem?_cons_zero, List.getElem?_cons_succ, List.getElem?_nil, List.set_cons_zero, List.set_cons_succ, List.length_cons, List.length_nil, List.append_nil, List.nil_append, List.cons_append, Nat.reduceAdd, Nat.zero_add, Nat.reduceSub, Nat.reduceLeDiff, Nat.reduceLT, Nat.reduceEqDiff, addU_int, addU_str, addU_tup, addU_lst, catL_lst, addI_int, subI_int, mulI_int, mulU_int, mulU_tup, repL_lst, fdivI_int, modI_int, powI_int, negD_int, ltI_int, leI_int, gtI_int, geI_int, isN_none, isN_bool, isN_int, isN_str, isN_lst, isN_tup, notN_none, notN_bool, notN_int, notN_str, notN_lst, notN_tup, truth_none, truth_bool, truth_int, truth_lst, truth_tup, boolOf_bool, intOf_int, tupleD_lst, tupleD_tup, listD_lst, listD_tup, itemsD_lst, itemsD_tup, slU_tup, slU_lst, itemU_tup, itemU_lst, itemD_tup, itemD_lst, lenD_lst, lenD_tup, isL_lst, appD_lst, setD_lst, revU_tup, rg1D_int, absD_int, repr1_one, enumU_tup, enumU_lst, isi_none, isi_bool, isi_int, isi_str, isi_lst, isi_tup, eqD_int, neD_int, eqD_bool, neD_bool, String.reduceBEq, Bool.or_false, Bool.or_true, Bool.false_or, Bool.true_or, Bool.not_not, true_and, and_true, Bool.not_true, Bool.not_false, Bool.and_true, Bool.and_false, Bool.true_and, Bool.false_and, if_true, if_false, reduceIte, decide_true, decide_false, lineN, Int.reduceAdd, Int.reduceSub, Int.reduceMul, Int.reduceNeg, Int.reduceLT, Int.reduceLE, Int.reduceEq, Int.reduceNe, Int.reduceGT, Int.reduceGE, Int.reduceToNat, ne_eq, not_true_eq_false, not_false_eq_true, Int.cast_ofNat_Int, WO_ite, WO_map, WO_bind, St_left, St_cell, St_turns, St_setL, St_setT, St_isKD, sumD_ls, minD_ls, maxD_ls, List.length_map, List.length_append, List.length_set, envD, List.map_cons, List.map_nil, List.replicate_succ, List.replicate_zero])
  | `(tactic| wp_walk using $ts,*) => `(tactic| simp only [W_ok, W_err, WR_ok, WR_err, WO_some, WI_true, WI_false, W_bnd, W_ret, W_lft, slot_some, W_var, W_lit, W_un, W_bin, W_app, W_itV, W_itA, W_nilA, W_consA, W_tupE, W_lstE, W_test, W_testB, W_notT, W_andT, W_orT, W_andV, W_orV, W_notV, W_ifE, W_chn, W_sliU, W_noPart, W_part, W_sq, W_nx, W_asg, W_drp, W_rtn, W_ifS, W_rai, W_fgt, forget_nil, forget_cons, restore_nil, restore_cons, List.getD_cons_zero, List.getD_cons_succ, W_brkS, W_cntS, W_asgL, setE_cons, setE_nil, setE_nil', W_asgT, W_tgN, W_tgT, W_tgs_nil, W_tgs_cons, W_chk, W_updI, W_appS, W_setS, W_setS2, W_augS, W_putS, W_popM, W_popE, W_popAtE, W_idxE, W_lrgE, W_pairs_nil, W_pairs_cons, W_dispE, W_callE, W_callK, W_callIO, W_tryS, W_forS, W_lcT, W_noT, List.getElem?_cons_zero, List.getElem?_cons_succ, List.getElem?_nil, List.set_cons_zero, List.set_cons_succ, List.length_cons, List.length_nil, List.append_nil, List.nil_append, List.cons_append, Nat.reduceAdd, Nat.zero_add, Nat.reduceSub, Nat.reduceLeDiff, Nat.reduceLT, Nat.reduceEqDiff, addU_int, addU_str, addU_tup, addU_lst, catL_lst, addI_int, subI_int, mulI_int, mulU_int, mulU_tup, repL_lst, fdivI_int, modI_int, powI_int, negD_int, ltI_int, leI_int, gtI_int, geI_int, isN_none, isN_bool, isN_int, isN_str, isN_lst, isN_tup, notN_none, notN_bool, notN_int, notN_str, notN_lst, notN_tup, truth_none, truth_bool, truth_int, truth_lst, truth_tup, boolOf_bool, intOf_int, tupleD_lst, tupleD_tup, listD_lst, listD_tup, itemsD_lst, itemsD_tup, slU_tup, slU_lst, itemU_tup, itemU_lst, itemD_tup, itemD_lst, lenD_lst, lenD_tup, isL_lst, appD_lst, setD_lst, revU_tup, rg1D_int, absD_int, repr1_one, enumU_tup, enumU_lst, isi_none, isi_bool, isi_int, isi_str, isi_lst, isi_tup, eqD_int, neD_int, eqD_bool, neD_bool, String.reduceBEq, Bool.or_false, Bool.or_true, Bool.false_or, Bool.true_or, Bool.not_not, true_and, and_true, Bool.not_true, Bool.not_false, Bool.and_true, Bool.and_false, Bool.true_and, Bool.false_and, if_true, if_false, reduceIte, decide_true, decide_false, lineN, Int.reduceAdd, Int.reduceSub, Int.reduceMul, Int.reduceNeg, Int.reduceLT, Int.reduceLE, Int.reduceEq, Int.reduceNe, Int.reduceGT, Int.reduceGE, Int.reduceToNat, ne_eq, not_true_eq_false, not_false_eq_true, Int.cast_ofNat_Int, WO_ite, WO_map, WO_bind, St_left, St_cell, St_turns, St_setL, St_setT, St_isKD, sumD_ls, minD_ls, maxD_ls, List.length_map, List.length_append, List.length_set, envD, List.map_cons, List.map_nil, List.replicate_succ, List.replicate_zero, $[$ts:term],*])
theorem pl60t {xs : List D} : pl 60 (.tuple xs) = xs.all (pl 59) := rfl
theorem pl60l {xs : List D} : pl 60 (.list xs) = xs.all (pl 59) := rfl
theorem pl59t {xs : List D} : pl 59 (.tuple xs) = xs.all (pl 58) := rfl
theorem pl59l {xs : List D} : pl 59 (.list xs) = xs.all (pl 58) := rfl
theorem cutL_len (xs : List D) (a b : Option Int) : (cutL xs a b).length ≤ xs.length := by
  unfold cutL
  rw [List.length_take, List.length_drop]; omega
theorem cutL_all {p : D → Bool} {xs : List D} (a b : Option Int) (h : xs.all p = true) : (cutL xs a b).all p = true := by
  rw [List.all_eq_true] at h ⊢
  unfold cutL
  exact fun x hx => h x (List.mem_of_mem_drop (List.mem_of_mem_take hx))
theorem papers_ok {n : Nat} {ns : List Int} {l c t : Int} {p : D} {Q : D → Dn.Env → Prop} {E : Str → D → Dn.Env → Prop} (h : Row ns) (hp : PaperOk ns p) (g : GS (n + 3) t)
    (k : ∀ xs l' t' ρ', xs.all (pl 60) = true → GS n t' → ρ'[0]? = some (some (St l' c t')) → Q (.list xs) ρ') : W (f__law_papers [St l c t, ts ns, p]) Q E := by
  have h1 := h.one
  have h2 := h.le
  unfold f__law_papers
  apply W_b3
  unfold b__law_papers ts
  wp_walk
  refine digit_ok (n := n + 2) (by omega) (by omega) g fun v1 l1 t1 ρ1 a1 b1 g1 e1 => ?_
  (wp_walk using e1, wide_l (i := 3) (j := (ns.length : Int)) (by decide))
  refine digit_ok (n := n + 1) (by omega) (by omega) g1 fun v2 l2 t2 ρ2 a2 b2 g2 e2 => ?_
  have q0 : ∀ {a : D} {r : List D}, cutL (a :: r) none (some 1) = [a] := fun {a r} => by rw [cut_to (by omega)]; rfl
  have q1 : ∀ {a : D} {r : List D}, cutL (a :: r) (some 1) none = r := fun {a r} => by rw [cut_from (by omega)]; rfl
  rcases hp with ⟨_, rfl⟩ | ⟨_, o, kk, ho, rfl⟩
  · unfold ts
    (wp_walk using e2, q0, q1, wide_l (i := 3) (j := (ns.length : Int)) (by decide), atI_lit0, eqD_self (d := .str "endless") (by decide +kernel), atI_lit1)
    have I := (L_inv h1).1
    have le := I.le
    have one := I.one
    have lst : (nz (L ns).2.2).length = (L ns).2.2.length := nz_len _
    refine digit_ok (n := n) (by omega) (by omega) g2 fun v3 l3 t3 ρ3 a3 b3 g3 e3 => ?_
    generalize nz (L ns).2.2 = st at *
    have c1 := cutL_len (st.map PyData.int) none (some v3)
    have c2 := cutL_len (st.map PyData.int) (some v3) none
    have c3 := cutL_len (st.map PyData.int) (some 1) none
    rw [List.length_map] at c1 c2 c3
    (wp_walk using e3, W_forL_cons, W_forL_nil, atI_lit1, List.flatten_cons, List.flatten_nil, reduceCtorEq)
    refine ⟨by omega, by omega, by omega, by omega, by omega, by omega, by omega, ?_⟩
    refine k _ l3 t3 _ ?_ g3 rfl
    have s2 : pl 58 (.str "endless") = true := by decide +kernel
    have s1 : pl 58 (.str "ends") = true := by decide +kernel
    have s3 : pl 59 (.str "ends") = true := by decide +kernel
    have s4 : pl 59 (.str "endless") = true := by decide +kernel
    have s5 : pl 59 (.str "else") = true := by decide +kernel
    have s6 : pl 60 (.str "ends") = true := by decide +kernel
    have w1 : ∀ a b, (cutL (st.map PyData.int) a b).all (pl 58) = true := fun a b => cutL_all a b pl_ints
    have w2 : (st.map PyData.int).all (pl 58) = true := pl_ints
    simp only [List.all_append, List.all_cons, List.all_nil, List.all_reverse, pl60t, pl60l, pl59t, pl59l, pl_int, pl_bool, pl_none, s1, s2, s3, s4, s5, s6, w1, w2, Bool.and_self, Bool.and_true, List.cons_append, List.nil_append]
  · (wp_walk using e2, q0, q1, wide_l (i := 3) (j := (ns.length : Int)) (by decide), atI_lit0, eqD_str ends_ok endless_ok, se')
    refine k _ l2 t2 _ ?_ (g2.less (by omega)) rfl
    have s1 : pl 58 (.str "ends") = true := by decide +kernel
    have s2 : pl 58 (.str "endless") = true := by decide +kernel
    have s3 : pl 59 (.str "ends") = true := by decide +kernel
    have s4 : pl 59 (.str "endless") = true := by decide +kernel
    have s5 : pl 59 (.str "else") = true := by decide +kernel
    have s6 : pl 60 (.str "ends") = true := by decide +kernel
    simp only [List.all_append, List.all_cons, List.all_nil, pl60t, pl60l, pl59t, pl59l, pl_int, pl_bool, pl_none, s1, s2, s3, s4, s5, s6, Bool.and_self, Bool.and_true, List.cons_append, List.nil_append]
theorem row_ok {n : Nat} {l c t : Int} {Q : D → Dn.Env → Prop} {E : Str → D → Dn.Env → Prop} (g : GS (n + 60) t)
    (k : ∀ ns l' t' ρ', Row ns → (∀ x ∈ ns, x.natAbs ≤ 40) → GS n t' → ρ'[0]? = some (some (St l' c t')) → Q (ts ns) ρ') : W (f__law_row [St l c t]) Q E := by
  unfold f__law_row
  apply W_b1
  unfold b__law_row
  wp_walk
  refine digit_ok (n := n + 59) (by omega) (by omega) g fun v1 l1 t1 ρ1 a1 b1 g1 e1 => ?_
  (wp_walk using e1)
  generalize decide (v1 = 0) = lg
  refine digit_ok (n := n + 58) (by omega) (by omega) g1 fun v2 l2 t2 ρ2 a2 b2 g2 e2 => ?_
  (wp_walk using e2)
  refine WI_dec (fun z => ?_) (fun z => ?_)
  · wp_walk
    refine W_lcK (fun xs ρ' => ∃ (m : Nat) (l' t' : Int), xs = rngL 0 m ∧ 1 ≤ m ∧ m ≤ 24 ∧ ρ' = [some (St l' c t'), some (.bool lg), none, none, none, none] ∧ GS (n + 57) t')
      (fun xs ρ' k ys ρ2 => ∃ (ns : List Int) (l' t' : Int), ys = ns.map .int ∧ ns.length = k ∧ (∀ x ∈ ns, x.natAbs ≤ 40) ∧ ρ2 = [some (St l' c t'), some (.bool lg), none, none, none, none] ∧ GS (n + (57 - k)) t') ?_ (fun xs ρ' ⟨m, l', t', e, _, _, e2, g2⟩ => ?_) (fun xs ρ' ⟨m, l', t', e, m1, m2, e2, g2⟩ k x ys ρ2 hx ⟨ns, l2, t2, f1, f2, f3, f4, f5⟩ => ?_) (fun xs ρ' ⟨m, l', t', e, m1, m2, e2, g2⟩ ys ρ2 ⟨ns, l2, t2, f1, f2, f3, f4, f5⟩ => ?_)
    · wp_walk
      cases lg with
      | true =>
        wp_walk
        refine digit_ok (n := n + 57) (by omega) (by omega) g2 fun v3 l3 t3 ρ3 a3 b3 g3 e3 => ?_
        (wp_walk using e3, rng1_ok (j := 1 + v3) (by omega) (by omega))
        exact ⟨(1 + v3).toNat, l3, t3, rfl, by omega, by omega, rfl, g3⟩
      | false =>
        wp_walk
        refine digit_ok (n := n + 57) (by omega) (by omega) g2 fun v3 l3 t3 ρ3 a3 b3 g3 e3 => ?_
        (wp_walk using e3, rng1_ok (j := 1 + v3) (by omega) (by omega))
        exact ⟨(1 + v3).toNat, l3, t3, rfl, by omega, by omega, rfl, g3⟩
    · subst e e2
      exact ⟨by rw [rngL_n]; unfold lineN; omega, [], l', t', rfl, rfl, by simp, rfl, g2⟩
    · subst e e2 f1 f4
      have hk := (rngL_at hx).1
      wp_walk
      refine digit_ok (n := n + (57 - (k + 1))) (by omega) (by omega) (f5.less (by omega)) fun v3 l3 t3 ρ3 a3 b3 g3 e3 => ?_
      (wp_walk using e3)
      refine ⟨ns ++ [v3 - 1], l3, t3, by simp, by simp [f2], fun x hx => ?_, rfl, g3⟩
      rcases List.mem_append.mp hx with h | h
      · exact f3 x h
      · rw [List.mem_singleton.mp h]; omega
    · subst e e2 f1 f4
      rw [rngL_n] at f2
      wp_walk
      exact k ns l2 t2 _ ⟨by omega, by omega, fun x hx => by have := f3 x hx; omega⟩ f3 (f5.less (by omega)) rfl
  · wp_walk
    refine W_lcK (fun xs ρ' => ∃ (m : Nat) (l' t' : Int), xs = rngL 0 m ∧ 1 ≤ m ∧ m ≤ 8 ∧ ρ' = [some (St l' c t'), some (.bool lg), none, none, none, none] ∧ GS (n + 50) t')
      (fun xs ρ' k ys ρ2 => ∃ (ns : List Int) (l' t' : Int), ys = ns.map .int ∧ ns.length = k ∧ (∀ x ∈ ns, 1 ≤ x ∧ x ≤ 4) ∧ ρ2 = [some (St l' c t'), some (.bool lg), none, none, none, none] ∧ GS (n + (50 - k)) t') ?_ (fun xs ρ' ⟨m, l', t', e, _, _, e2, g2⟩ => ?_) (fun xs ρ' ⟨m, l', t', e, m1, m2, e2, g2⟩ k x ys ρ2 hx ⟨ns, l2, t2, f1, f2, f3, f4, f5⟩ => ?_) (fun xs ρ' ⟨m, l', t', e, m1, m2, e2, g2⟩ ys ρ2 ⟨ns, l2, t2, f1, f2, f3, f4, f5⟩ => ?_)
    · wp_walk
      cases lg with
      | true =>
        wp_walk
        refine digit_ok (n := n + 57) (by omega) (by omega) g2 fun v3 l3 t3 ρ3 a3 b3 g3 e3 => ?_
        (wp_walk using e3, rng1_ok (j := 1 + v3) (by omega) (by omega))
        exact ⟨(1 + v3).toNat, l3, t3, rfl, by omega, by omega, rfl, g3.less (by omega)⟩
      | false =>
        wp_walk
        refine digit_ok (n := n + 57) (by omega) (by omega) g2 fun v3 l3 t3 ρ3 a3 b3 g3 e3 => ?_
        (wp_walk using e3, rng1_ok (j := 1 + v3) (by omega) (by omega))
        exact ⟨(1 + v3).toNat, l3, t3, rfl, by omega, by omega, rfl, g3.less (by omega)⟩
    · subst e e2
      exact ⟨by rw [rngL_n]; unfold lineN; omega, [], l', t', rfl, rfl, by simp, rfl, g2⟩
    · subst e e2 f1 f4
      have hk := (rngL_at hx).1
      wp_walk
      refine digit_ok (n := n + (50 - (k + 1))) (by omega) (by omega) (f5.less (by omega)) fun v3 l3 t3 ρ3 a3 b3 g3 e3 => ?_
      (wp_walk using e3)
      refine ⟨ns ++ [2 + v3], l3, t3, by simp, by simp [f2], fun x hx => ?_, rfl, g3⟩
      rcases List.mem_append.mp hx with h | h
      · exact f3 x h
      · rw [List.mem_singleton.mp h]; omega
    · subst e e2 f1 f4
      rw [rngL_n] at f2
      wp_walk
      -- the turns
      have turns : ∀ (u : Nat) (l3 t3 : Int), u ≤ 16 → GS (n + 40) t3 → W (forL (tgN 4) (sq (asg 5 (callIO f__law_digit 0 (consA (un lenD (var 3)) nilA)))
          (sq (setS 3 (var 5) (bin addU (bin itemD (var 3) (var 5)) (lit (PyData.int 1))))
            (sq (setS 3 (modI (bin addU (var 5) (lit (PyData.int 1))) (un lenD (var 3))) (bin addU (bin itemD (var 3) (modI (bin addU (var 5) (lit (PyData.int 1))) (un lenD (var 3)))) (lit (PyData.int 1))))
              (sq (asg 3 (bin catL (bin addU (sliU (var 3) noPart (part (bin addU (var 5) (lit (PyData.int 1))))) (lstE (consA (lit (PyData.int 1)) nilA))) (sliU (var 3) (part (bin addU (var 5) (lit (PyData.int 1)))) noPart)))
                (fgt [] nx))))) (rngL 0 u) [some (St l3 c t3), some (.bool lg), none, some (.list (ns.map .int)), none, none])
          (fun f ρ' => f = .next ∧ ∃ (ms : List Int) (l' t' : Int) (ρ4 ρ5 : Option D), ρ' = [some (St l' c t'), some (.bool lg), none, some (.list (ms.map .int)), ρ4, ρ5] ∧ 1 ≤ ms.length ∧ ms.length ≤ 24 ∧ (∀ x ∈ ms, 1 ≤ x ∧ x ≤ 36) ∧ GS (n + 20) t') E := fun u l3 t3 hu g3 => by
        refine W_for (fun k ρ => ∃ (ms : List Int) (l' t' : Int) (ρ4 ρ5 : Option D), ρ = [some (St l' c t'), some (.bool lg), none, some (.list (ms.map .int)), ρ4, ρ5] ∧ 1 ≤ ms.length ∧ ms.length ≤ 8 + k ∧ (∀ x ∈ ms, 1 ≤ x ∧ x ≤ 4 + 2 * k) ∧ GS (n + (40 - k)) t') ⟨ns, l3, t3, none, none, rfl, by omega, by omega, by simpa using f3, g3⟩ (fun k x ρ hx ⟨ms, l', t', ρ4, ρ5, e, q1, q2, q3, q4⟩ => ?_) fun ρ ⟨ms, l', t', ρ4, ρ5, e, q1, q2, q3, q4⟩ => ?_
        · subst e
          have hk := (rngL_at hx).1
          wp_walk
          refine digit_ok (n := n + (40 - (k + 1))) (by omega) (by omega) (q4.less (by omega)) fun v4 l4 t4 ρ6 a4 b4 g4 e4 => ?_
          have i1 : L2.ixN ms.length v4 = some v4.toNat := ixN_nn a4 b4
          have m2 := Nat.mod_lt (v4.toNat + 1) (show 0 < ms.length by omega)
          have i2 : L2.ixN ms.length ((v4 + 1).fmod (ms.length : Int)) = some ((v4.toNat + 1) % ms.length) := by
            have := ixN_succ (p := v4.toNat) (show 0 < ms.length by omega)
            rwa [show ((v4.toNat : Nat) : Int) = v4 by omega] at this
          have i2' : ∀ x : Int, L2.ixN (ms.set v4.toNat x).length ((v4 + 1).fmod (ms.length : Int)) = some ((v4.toNat + 1) % ms.length) := fun x => by rw [List.length_set]; exact i2
          (wp_walk using e4, atI_ix i1 (by omega), i1, set_ints)
          (wp_walk using i2, atI_ix (i2' (ms.getD v4.toNat 0 + 1)) (by rw [List.length_set]; exact m2), set_ints, show ¬ (ms.length : Int) = 0 by omega)
          generalize hr : (ms.set v4.toNat (ms.getD v4.toNat 0 + 1)).set ((v4.toNat + 1) % ms.length) ((ms.set v4.toNat (ms.getD v4.toNat 0 + 1)).getD ((v4.toNat + 1) % ms.length) 0 + 1) = rs
          have lr : rs.length = ms.length := by rw [← hr]; simp
          have br : ∀ x ∈ rs, 1 ≤ x ∧ x ≤ 4 + 2 * (k : Int) + 2 := fun x hx => by
            have b1 : ∀ y ∈ ms.set v4.toNat (ms.getD v4.toNat 0 + 1), 1 ≤ y ∧ y ≤ 4 + 2 * (k : Int) + 1 := fun y hy => by
              rcases List.mem_or_eq_of_mem_set hy with h | h
              · have := q3 y h; omega
              · have := q3 _ (getD_mem (l := ms) (i := v4.toNat) (by omega)); omega
            rw [← hr] at hx
            rcases List.mem_or_eq_of_mem_set hx with h | h
            · have := b1 x h; omega
            · have := b1 _ (getD_mem (l := ms.set v4.toNat (ms.getD v4.toNat 0 + 1)) (i := (v4.toNat + 1) % ms.length) (by rw [List.length_set]; exact m2)); omega
          have c1 := cut_to (xs := rs.map PyData.int) (k := v4 + 1) (by omega)
          have c2 := cut_from (xs := rs.map PyData.int) (k := v4 + 1) (by omega)
          (wp_walk using c1, c2, List.length_take, List.length_drop)
          refine ⟨by omega, by omega, rs.take (v4 + 1).toNat ++ [1] ++ rs.drop (v4 + 1).toNat, l4, t4, some x, some (.int v4), ?_, ?_, ?_, fun x hx => ?_, g4⟩
          · rw [List.map_append, List.map_append, List.map_take, List.map_drop]; rfl
          · simp; omega
          · simp; omega
          · simp only [List.mem_append, List.mem_singleton] at hx
            rcases hx with (h | h) | h
            · have := br x (List.mem_of_mem_take h); omega
            · omega
            · have := br x (List.mem_of_mem_drop h); omega
        · rw [rngL_n] at q2 q3 q4
          exact ⟨rfl, ms, l', t', ρ4, ρ5, e, q1, by omega, fun x hx => by have := q3 x hx; omega, q4.less (by omega)⟩
      cases lg with
      | true =>
        wp_walk
        refine digit_ok (n := n + 40) (by omega) (by omega) (f5.less (by rw [rngL_n]; omega)) fun v3 l3 t3 ρ3 a3 b3 g3 e3 => ?_
        (wp_walk using e3, rng1_ok (j := v3) (by omega) (by omega))
        refine W_impQ (turns v3.toNat l3 t3 (by omega) g3) fun f ρ' ⟨hf, ms, l', t', ρ4, ρ5, e, q1, q2, q3, q4⟩ => ?_
        subst hf e
        wp_walk
        refine digit_ok (n := n + 19) (by omega) (by omega) q4 fun v5 l5 t5 ρ6 a5 b5 g5 e5 => ?_
        (wp_walk using e5)
        refine WI_dec (fun z5 => ?_) (fun z5 => ?_)
        · wp_walk
          refine digit_ok (n := n + 18) (by omega) (by omega) g5 fun v6 l6 t6 ρ7 a6 b6 g6 e6 => ?_
          have i1 : L2.ixN ms.length v6 = some v6.toNat := ixN_nn a6 b6
          (wp_walk using e6, atI_ix i1 (by omega))
          refine digit_ok (n := n + 17) (by omega) (by omega) g6 fun v7 l7 t7 ρ8 a7 b7 g7 e7 => ?_
          (wp_walk using e7, i1, set_ints)
          refine k _ l7 t7 _ ⟨?_, ?_, fun x hx => ?_⟩ (fun x hx => ?_) (g7.less (by omega)) rfl
          · rw [List.length_set]; exact q1
          · rw [List.length_set]; exact q2
          · rcases List.mem_or_eq_of_mem_set hx with h | h
            · have := q3 x h; omega
            · have := q3 _ (getD_mem (l := ms) (i := v6.toNat) (by omega)); omega
          · rcases List.mem_or_eq_of_mem_set hx with h | h
            · have := q3 x h; omega
            · have := q3 _ (getD_mem (l := ms) (i := v6.toNat) (by omega)); omega
        · wp_walk
          exact k ms l5 t5 _ ⟨q1, q2, fun x hx => by have := q3 x hx; omega⟩ (fun x hx => by have := q3 x hx; omega) (g5.less (by omega)) rfl
      | false =>
        wp_walk
        refine digit_ok (n := n + 40) (by omega) (by omega) (f5.less (by rw [rngL_n]; omega)) fun v3 l3 t3 ρ3 a3 b3 g3 e3 => ?_
        (wp_walk using e3, rng1_ok (j := v3) (by omega) (by omega))
        refine W_impQ (turns v3.toNat l3 t3 (by omega) g3) fun f ρ' ⟨hf, ms, l', t', ρ4, ρ5, e, q1, q2, q3, q4⟩ => ?_
        subst hf e
        wp_walk
        refine digit_ok (n := n + 19) (by omega) (by omega) q4 fun v5 l5 t5 ρ6 a5 b5 g5 e5 => ?_
        (wp_walk using e5)
        refine WI_dec (fun z5 => ?_) (fun z5 => ?_)
        · wp_walk
          refine digit_ok (n := n + 18) (by omega) (by omega) g5 fun v6 l6 t6 ρ7 a6 b6 g6 e6 => ?_
          have i1 : L2.ixN ms.length v6 = some v6.toNat := ixN_nn a6 b6
          (wp_walk using e6, atI_ix i1 (by omega))
          refine digit_ok (n := n + 17) (by omega) (by omega) g6 fun v7 l7 t7 ρ8 a7 b7 g7 e7 => ?_
          (wp_walk using e7, i1, set_ints)
          refine k _ l7 t7 _ ⟨?_, ?_, fun x hx => ?_⟩ (fun x hx => ?_) (g7.less (by omega)) rfl
          · rw [List.length_set]; exact q1
          · rw [List.length_set]; exact q2
          · rcases List.mem_or_eq_of_mem_set hx with h | h
            · have := q3 x h; omega
            · have := q3 _ (getD_mem (l := ms) (i := v6.toNat) (by omega)); omega
          · rcases List.mem_or_eq_of_mem_set hx with h | h
            · have := q3 x h; omega
            · have := q3 _ (getD_mem (l := ms) (i := v6.toNat) (by omega)); omega
        · wp_walk
          exact k ms l5 t5 _ ⟨q1, q2, fun x hx => by have := q3 x hx; omega⟩ (fun x hx => by have := q3 x hx; omega) (g5.less (by omega)) rfl
/-! ### what a row has is told -/
theorem jp_play {row row' : List Int} {st : List Nat} (h : rp row st = some row') : ∀ k, jp row k ((nz st).map .int) = if 1 < mn row' then .str "endless" else .list [.str "rest"] := by
  induction st generalizing row with
  | nil => intro k; cases h; rfl
  | cons p st ih =>
    intro k
    unfold rp at h
    split at h
    · rename_i c
      show jp row k (.int (p : Int) :: (nz st).map .int) = _
      unfold jp
      simp only []
      rw [if_pos ⟨by omega, by omega, c.2.1, by rw [Int.toNat_natCast]; exact c.2.2⟩, Int.toNat_natCast]
      exact ih h (k + 1)
    · cases h
theorem paper_word {ns : List Int} (h : Row ns) {p : D} (hp : PaperOk ns p) : jd ns p = .str (if 1 < mn (L ns).2.1 then "endless" else "ends") ∧ pl 60 p = true := by
  have h1 := h.one
  obtain ⟨I, cnd⟩ := L_inv h1
  have s3 : pl 59 (.str "ends") = true := by decide +kernel
  have s4 : pl 59 (.str "endless") = true := by decide +kernel
  rcases hp with ⟨a, rfl⟩ | ⟨a, o, kk, ho, rfl⟩
  · refine ⟨?_, ?_⟩
    · show jp ns 0 ((nz (L ns).2.2).map .int) = _
      rw [jp_play I.play, if_pos a, if_pos a]
    · unfold ts
      simp only [pl60t, List.all_cons, List.all_nil, s4, pl59t, pl_ints, Bool.and_self]
  · refine ⟨?_, ?_⟩
    · show jm ns (.int o) (.int (o + kk : Nat)) = _
      unfold jm
      simp only []
      have := ho.lt
      have := ho.lo
      have := ho.hi
      rw [if_pos ⟨by omega, by omega, by omega, by omega⟩, Int.toNat_natCast, show (((o + kk : Nat) : Int) - (o : Int)).toNat = kk by omega, if_pos ho.en, if_neg (by omega)]
    · simp only [pl60t, List.all_cons, List.all_nil, s3, pl_int, Bool.and_self]
theorem low_due {ns : List Int} (h : Row ns) : ((List.range ns.length).filterMap fun (i : Nat) => if mn ((lin ns i (7 * ns.length + 2)).drop 1) < 1 then some (PyData.int (i : Int)) else none).isEmpty = decide (1 < mn (L ns).2.1) := by
  have h1 := h.one
  obtain ⟨I, cnd⟩ := L_inv h1
  have dl : ∀ i, (lin ns i (7 * ns.length + 2)).drop 1 = (List.range (7 * ns.length + 2)).map fun k => en (rd ns) i (k + 1) := fun i => by
    unfold lin
    rw [← List.map_drop]
    have : (List.range (7 * ns.length + 2 + 1)).drop 1 = (List.range (7 * ns.length + 2)).map (· + 1) := by
      rw [List.range_succ_eq_map]; rfl
    rw [this, List.map_map]; rfl
  have nn : ∀ i, (lin ns i (7 * ns.length + 2)).drop 1 ≠ [] := fun i => by rw [dl]; simp
  have low : ∀ i k, i < ns.length → k < 7 * ns.length + 2 → en (rd ns) i (k + 1) < 1 → ((List.range ns.length).filterMap fun (i : Nat) => if mn ((lin ns i (7 * ns.length + 2)).drop 1) < 1 then some (PyData.int (i : Int)) else none).isEmpty = false := fun i k hi hk he => by
    have m1 : mn ((lin ns i (7 * ns.length + 2)).drop 1) < 1 := by
      have : en (rd ns) i (k + 1) ∈ (lin ns i (7 * ns.length + 2)).drop 1 := by
        rw [dl]; exact List.mem_map.mpr ⟨k, List.mem_range.mpr hk, rfl⟩
      have := mn_le this
      omega
    have : PyData.int (i : Int) ∈ ((List.range ns.length).filterMap fun (i : Nat) => if mn ((lin ns i (7 * ns.length + 2)).drop 1) < 1 then some (PyData.int (i : Int)) else none) := List.mem_filterMap.mpr ⟨i, List.mem_range.mpr hi, by rw [if_pos m1]⟩
    cases hh : ((List.range ns.length).filterMap fun (i : Nat) => if mn ((lin ns i (7 * ns.length + 2)).drop 1) < 1 then some (PyData.int (i : Int)) else none) with
    | nil => rw [hh] at this; cases this
    | cons _ _ => rfl
  by_cases d : 1 < mn (L ns).2.1
  · rw [decide_eq_true d]
    have P := (I.endless d).1
    have e : ((List.range ns.length).filterMap fun (i : Nat) => if mn ((lin ns i (7 * ns.length + 2)).drop 1) < 1 then some (PyData.int (i : Int)) else none) = [] := by
      rw [List.filterMap_eq_nil_iff]
      intro i hi
      have m := mn_mem (nn i)
      rw [if_neg]
      rw [dl] at m ⊢
      obtain ⟨k, _, e⟩ := List.mem_map.mp m
      rw [← e]
      have := P i k
      omega
    rw [e]; rfl
  · rw [decide_eq_false d]
    rcases I.ends cnd (by omega) with ⟨_, _, e, lt⟩ | ⟨lt, k, k2, kn, _, e⟩
    · exact low _ (3 * ns.length - 1) lt (by omega) (by rw [show 3 * ns.length - 1 + 1 = 3 * ns.length by omega, e]; decide)
    · rw [← en_mod] at e
      exact low _ (k - 1) (Nat.mod_lt _ h1) (by omega) (by rw [show k - 1 + 1 = k by omega, e]; exact lt)
theorem eqD_nil {l : List D} (h : pl 60 (.list l) = true) : eqD (.list l) (.list []) = some (.bool l.isEmpty) := by
  unfold eqD
  rw [h, show pl 60 (.list []) = true from rfl]
  cases l <;> rfl
def lowG (ns : List Int) : D → Option D
  | .int i => if mn ((lin ns i.toNat (7 * ns.length + 2)).drop 1) < 1 then some (.int i) else none
  | _ => none
theorem lowG_at (ns : List Int) (i : Nat) : lowG ns (.int (i : Int)) = if mn ((lin ns i (7 * ns.length + 2)).drop 1) < 1 then some (.int (i : Int)) else none := by
  unfold lowG
  simp only [Int.toNat_natCast]
theorem right_ok {n : Nat} {ns : List Int} {l c t : Int} {Q : D → Dn.Env → Prop} {E : Str → D → Dn.Env → Prop} (h : Row ns) (hb : ∀ x ∈ ns, x.natAbs ≤ 40) (g : GS (n + 5) t)
    (k : ∀ l' t' ρ', GS n t' → ρ'[0]? = some (some (St l' c t')) → Q (.bool true) ρ') : W (f__law_right [St l c t, ts ns]) Q E := by
  have h1 := h.one
  have h2 := h.le
  obtain ⟨I, cnd⟩ := L_inv h1
  have hll := law_left_ok h
  have hie := is_endless_ok h
  have hlo := left_of_ok h
  have hrt := row_trace_ok h
  have hrow : ∀ x ∈ (L ns).2.1, x.natAbs ≤ 88 := fun x hx => by
    have := lf_bd (B := 40) ns.length (List.range ns.length) ns [] hb x hx
    omega
  have htr : res (f__law_trace [ts ns]) = .ok (.int (tr (rd ns) ns.length 0)) := by
    have := law_trace_ok' (ns := ns) (fun x hx => by have := hb x hx; omega) (ts ns) rfl
    rwa [trL_all ns h1] at this
  have htl : res (f__law_trace [ls (L ns).2.1]) = .ok (.int (tr (rd ns) ns.length 0)) := by
    have := law_trace_ok' (ns := (L ns).2.1) (fun x hx => by have := hrow x hx; omega) (ls (L ns).2.1) rfl
    rwa [trL_all _ I.one, I.trc] at this
  obtain ⟨p, hp, pok⟩ := endless_paper_ok h
  obtain ⟨pw, ppl⟩ := paper_word h pok
  have hdp := due_ok h ppl
  have hck := check_ok h ppl
  rw [pw] at hdp hck
  have rtr : Rp (.int (tr (rd ns) ns.length 0)) 1921 := by
    refine Rp.int (Nat.lt_of_lt_of_le (log2_lt (k := 256) (by decide) ?_) (by decide))
    show (en (rd ns) 0 (ns.length + 1) - en (rd ns) 1 (ns.length - 1)).natAbs < _
    have e1 := en_lim (rd_sz h) 0 (ns.length + 1)
    have e2 := en_lim (rd_sz h) 1 (ns.length - 1)
    have p1 : 2 ^ (10 * (ns.length + 1) + 1) ≤ 2 ^ 252 := Nat.pow_le_pow_right (by decide) (by omega)
    have p2 : 2 ^ (10 * (ns.length - 1) + 1) ≤ 2 ^ 252 := Nat.pow_le_pow_right (by decide) (by omega)
    have p3 : (2 : Nat) ^ 252 + 2 ^ 252 ≤ 2 ^ 256 := by decide +kernel
    omega
  have rlt : Rp (.tuple ((L ns).2.1.map .int)) (1923 * (L ns).2.1.length + 3) := Rp.ints fun x hx => by
    have := hrow x hx
    exact Nat.lt_of_lt_of_le (log2_lt (n := x.natAbs) (k := 64) (by decide) (by omega)) (by decide)
  have hrl : (L ns).2.1.length ≤ 24 := by have := I.le; omega
  have low := low_due h
  have dtr : (decide (1 < mn (L ns).2.1) && decide (tr (rd ns) ns.length 0 < 2)) = false := by
    by_cases d : 1 < mn (L ns).2.1
    · have := (I.endless d).2
      rw [decide_eq_true d, Bool.true_and]
      exact decide_eq_false (by omega)
    · rw [decide_eq_false d]; rfl
  have one := I.one
  unfold f__law_right
  apply W_b2
  unfold b__law_right
  unfold ts ls at *
  (wp_walk using hll)
  refine W_lcQ (rngL 0 ns.length) (lowG ns) ?_ (by rw [rngL_n]; unfold lineN; omega) (fun x hx => ?_) ?_
  · (wp_walk using rng1_ok (j := (ns.length : Int)) (by omega) (by omega))
    first | rfl | exact ⟨rfl, rfl⟩
  · obtain ⟨i, hi, rfl⟩ := rngL_mem hx
    have hw := law_line_ok h i (7 * ns.length + 2) (by omega)
    rw [show ((7 * ns.length + 2 : Nat) : Int) = 7 * (ns.length : Int) + 2 by omega] at hw
    unfold ts ls at hw
    have nn : (lin ns i (7 * ns.length + 2)).drop 1 ≠ [] := by
      intro e
      have := congrArg List.length e
      unfold lin at this
      simp at this
    simp only [W_ok, W_err, WR_ok, WR_err, WO_some, WI_true, WI_false, W_bnd, W_ret, W_lft, slot_some, W_var, W_lit, W_un, W_bin, W_app, W_itV, W_itA, W_nilA, W_consA, W_tupE, W_lstE, W_test, W_testB, W_notT, W_andT, W_orT, W_andV, W_orV, W_notV, W_ifE, W_chn, W_sliU, W_noPart, W_part, W_sq, W_nx, W_asg, W_drp, W_rtn, W_ifS, W_rai, W_fgt, forget_nil, forget_cons, restore_nil, restore_cons, List.getD_cons_zero, List.getD_cons_succ, W_brkS, W_cntS, W_asgL, setE_cons, setE_nil, setE_nil', W_asgT, W_tgN, W_tgT, W_tgs_nil, W_tgs_cons, W_chk, W_updI, W_appS, W_setS, W_setS2, W_augS, W_putS, W_popM, W_popE, W_popAtE, W_idxE, W_lrgE, W_pairs_nil, W_pairs_cons, W_dispE, W_callE, W_callK, W_callIO, W_tryS, W_forS, W_lcT, W_noT, List.getElem?_cons_zero, List.getElem?_cons_succ, List.getElem?_nil, List.set_cons_zero, List.set_cons_succ, List.length_cons, List.length_nil, List.append_nil, List.nil_append, List.cons_append, Nat.reduceAdd, Nat.zero_add, Nat.reduceSub, Nat.reduceLeDiff, Nat.reduceLT, Nat.reduceEqDiff, addU_int, addU_str, addU_tup, addU_lst, catL_lst, addI_int, subI_int, mulI_int, mulU_int, mulU_tup, repL_lst, fdivI_int, modI_int, powI_int, negD_int, ltI_int, leI_int, gtI_int, geI_int, isN_none, isN_bool, isN_int, isN_str, isN_lst, isN_tup, notN_none, notN_bool, notN_int, notN_str, notN_lst, notN_tup, truth_none, truth_bool, truth_int, truth_lst, truth_tup, boolOf_bool, intOf_int, tupleD_lst, tupleD_tup, listD_lst, listD_tup, itemsD_lst, itemsD_tup, slU_tup, slU_lst, itemU_tup, itemU_lst, itemD_tup, itemD_lst, lenD_lst, lenD_tup, isL_lst, appD_lst, setD_lst, revU_tup, rg1D_int, absD_int, repr1_one, enumU_tup, enumU_lst, isi_none, isi_bool, isi_int, isi_str, isi_lst, isi_tup, eqD_int, neD_int, eqD_bool, neD_bool, String.reduceBEq, Bool.or_false, Bool.or_true, Bool.false_or, Bool.true_or, Bool.not_not, true_and, and_true, Bool.not_true, Bool.not_false, Bool.and_true, Bool.and_false, Bool.true_and, Bool.false_and, if_true, if_false, reduceIte, decide_true, decide_false, lineN, Int.reduceAdd, Int.reduceSub, Int.reduceMul, Int.reduceNeg, Int.reduceLT, Int.reduceLE, Int.reduceEq, Int.reduceNe, Int.reduceGT, Int.reduceGE, Int.reduceToNat, ne_eq, not_true_eq_false, not_false_eq_true, Int.cast_ofNat_Int, WO_ite, WO_map, WO_bind, St_left, St_cell, St_turns, St_setL, St_setT, St_isKD, sumD_ls, minD_ls, maxD_ls, List.length_map, List.length_append, List.length_set, envD, List.map_cons, List.map_nil, List.replicate_succ, List.replicate_zero, show (0 : Int) + (i : Int) = (i : Int) by omega, hw, wide_l (i := 7) (j := (ns.length : Int)) (by decide), cut_from (xs := (lin ns i (7 * ns.length + 2)).map PyData.int) (k := 1) (by omega), ← List.map_drop, minL_mn nn, Int.toNat_natCast, lowG_at]
    refine WI_dec (fun a => ?_) (fun a => ?_)
    · wp_walk
      rw [Int.zero_add, lowG_at, if_pos a]
    · wp_walk
      rw [Int.zero_add, lowG_at, if_neg a]
  · rw [rngL_filterMap]
    have e : ((List.range ns.length).filterMap fun (i : Nat) => lowG ns (.int (0 + (i : Int)))) = ((List.range ns.length).filterMap fun (i : Nat) => if mn ((lin ns i (7 * ns.length + 2)).drop 1) < 1 then some (PyData.int (i : Int)) else none) := by
      simp only [Int.zero_add, lowG_at]
    rw [e]
    have plw : pl 60 (.list ((List.range ns.length).filterMap fun (i : Nat) => if mn ((lin ns i (7 * ns.length + 2)).drop 1) < 1 then some (PyData.int (i : Int)) else none)) = true := by
      rw [pl60l, List.all_eq_true]
      intro x hx
      obtain ⟨i, _, e⟩ := List.mem_filterMap.mp hx
      split at e
      · cases e; exact pl_int
      · cases e
    generalize ((List.range ns.length).filterMap fun (i : Nat) => if mn ((lin ns i (7 * ns.length + 2)).drop 1) < 1 then some (PyData.int (i : Int)) else none) = lw at *
    have pm : ∀ x : D, permL [0] [x] = [x] := fun x => rfl
    have rb := Rp.bool (decide (1 < mn (L ns).2.1))
    (wp_walk using eqD_nil plw, low, minL_mn (nil_ne one), beq_self_eq_true, hie, rb.repr (by omega), rb.ne, pm)
    (wp_walk using hlo, rlt.repr (by omega), rlt.ne, pm, neD_ts, hrt, htr, htl, rtr.repr (by omega), rtr.ne)
    have pm2 : ∀ x y : D, permL [1, 0] [x, y] = [y, x] := fun x y => rfl
    have pm3 : ∀ x y z : D, permL [2, 1, 0] [x, y, z] = [z, y, x] := fun x y z => rfl
    by_cases d : 1 < mn (L ns).2.1
    · have t2 := (I.endless d).2
      rw [if_pos d] at hdp hck
      simp only [jr] at hck
      (wp_walk using d, show ¬ (tr (rd ns) ns.length 0 < 2) by omega, hp, hdp, hck, neD_self ppl, neD_self (d := .str "endless") (by decide +kernel), pm, pm2)
      refine papers_ok (n := n + 2) h pok g fun xs l1 t1 ρ1 hxs g1 e1 => ?_
      (wp_walk using e1)
      refine W_for (fun k ρ => ∃ v10, ρ = [some (St l1 c t1), some (.tuple (ns.map .int)), some (.int ns.length), some (.list ((L ns).2.1.map .int)), some (.list lw), none, some (.bool true), some (.int (tr (rd ns) ns.length 0)), some p, some (.str "endless"), v10, none, none]) ⟨none, rfl⟩ (fun k x ρ hx ⟨v10, e⟩ => ?_) fun ρ ⟨v10, e⟩ => ?_
      · subst e
        rw [List.all_eq_true] at hxs
        have px := hxs x (List.mem_of_getElem? hx)
        (wp_walk using show res (f__law_told [.tuple (ns.map .int), x]) = .ok (jd ns x) from told_ok h px, show res (f__law_due [.tuple (ns.map .int), x]) = .ok (jd ns x) from due_ok h px, neD_self (jd_pl ns x))
        exact ⟨_, rfl⟩
      · subst e
        wp_walk
        refine digit_ok (n := n + 1) (by omega) (by omega) g1 fun v5 l5 t5 ρ5 a5 b5 g5 e5 => ?_
        (wp_walk using e5)
        refine digit_ok (n := n) (by omega) (by omega) g5 fun v6 l6 t6 ρ6 a6 b6 g6 e6 => ?_
        obtain ⟨i, rfl⟩ : ∃ i : Nat, v5 = i := ⟨v5.toNat, by omega⟩
        obtain ⟨s, rfl⟩ : ∃ s : Nat, v6 = s := ⟨v6.toNat, by omega⟩
        have hli := law_line_ok h i s (by omega)
        have heb := entry_between_ok h i s (by omega) (by omega)
        rw [show ((i + s : Nat) : Int) = (i : Int) + (s : Int) by omega] at heb
        unfold ts ls at hli
        unfold ts at heb
        have ren : Rp (.int (en (rd ns) i s)) 1921 := Rp.int (Nat.lt_of_lt_of_le (log2_lt (k := 10 * s + 1) (by omega) (en_lim (rd_sz h) i s)) (by omega))
        (wp_walk using e6, hli, lin_last, heb, ren.repr (by omega), ren.ne, pm3)
        exact k _ _ _ g6 rfl
    · rw [if_neg d] at hdp hck
      simp only [jr] at hck
      (wp_walk using d, hp, hdp, hck, neD_self ppl, neD_self (d := .str "ends") (by decide +kernel), pm, pm2)
      refine papers_ok (n := n + 2) h pok g fun xs l1 t1 ρ1 hxs g1 e1 => ?_
      (wp_walk using e1)
      refine W_for (fun k ρ => ∃ v10, ρ = [some (St l1 c t1), some (.tuple (ns.map .int)), some (.int ns.length), some (.list ((L ns).2.1.map .int)), some (.list lw), none, some (.bool false), some (.int (tr (rd ns) ns.length 0)), some p, some (.str "ends"), v10, none, none]) ⟨none, rfl⟩ (fun k x ρ hx ⟨v10, e⟩ => ?_) fun ρ ⟨v10, e⟩ => ?_
      · subst e
        rw [List.all_eq_true] at hxs
        have px := hxs x (List.mem_of_getElem? hx)
        (wp_walk using show res (f__law_told [.tuple (ns.map .int), x]) = .ok (jd ns x) from told_ok h px, show res (f__law_due [.tuple (ns.map .int), x]) = .ok (jd ns x) from due_ok h px, neD_self (jd_pl ns x))
        exact ⟨_, rfl⟩
      · subst e
        wp_walk
        refine digit_ok (n := n + 1) (by omega) (by omega) g1 fun v5 l5 t5 ρ5 a5 b5 g5 e5 => ?_
        (wp_walk using e5)
        refine digit_ok (n := n) (by omega) (by omega) g5 fun v6 l6 t6 ρ6 a6 b6 g6 e6 => ?_
        obtain ⟨i, rfl⟩ : ∃ i : Nat, v5 = i := ⟨v5.toNat, by omega⟩
        obtain ⟨s, rfl⟩ : ∃ s : Nat, v6 = s := ⟨v6.toNat, by omega⟩
        have hli := law_line_ok h i s (by omega)
        have heb := entry_between_ok h i s (by omega) (by omega)
        rw [show ((i + s : Nat) : Int) = (i : Int) + (s : Int) by omega] at heb
        unfold ts ls at hli
        unfold ts at heb
        have ren : Rp (.int (en (rd ns) i s)) 1921 := Rp.int (Nat.lt_of_lt_of_le (log2_lt (k := 10 * s + 1) (by omega) (en_lim (rd_sz h) i s)) (by omega))
        (wp_walk using e6, hli, lin_last, heb, ren.repr (by omega), ren.ne, pm3)
        exact k _ _ _ g6 rfl
end K60

/-! K60F -/
set_option Elab.async false
set_option linter.all false
set_option maxRecDepth 100000
set_option maxHeartbeats 4000000
namespace K60
open PySem Dn
local macro_rules
  | `(tactic| wp_walk) => `(tactic| simp only [W_ok, W_err, WR_ok, WR_err, WO_some, WI_true, WI_false, W_bnd, W_ret, W_lft, slot_some, W_var, W_lit, W_un, W_bin, W_app, W_itV, W_itA, W_nilA, W_consA, W_tupE, W_lstE, W_test, W_testB, W_notT, W_andT, W_orT, W_andV, W_orV, W_notV, W_ifE, W_chn, W_sliU, W_noPart, W_part, W_sq, W_nx, W_asg, W_drp, W_rtn, W_ifS, W_rai, W_fgt, forget_nil, forget_cons, restore_nil, restore_cons, List.getD_cons_zero, List.getD_cons_succ, W_brkS, W_cntS, W_asgL, setE_cons, setE_nil, setE_nil', W_asgT, W_tgN, W_tgT, W_tgs_nil, W_tgs_cons, W_chk, W_updI, W_appS, W_setS, W_setS2, W_augS, W_putS, W_popM, W_popE, W_popAtE, W_idxE, W_lrgE, W_pairs_nil, W_pairs_cons, W_dispE, W_callE, W_callK, W_callIO, W_tryS, W_forS, W_lcT, W_noT, List.getElem?_cons_zero, List.getElem?_cons_succ, List.getElem?_nil, List.set_cons_zero, List.set_cons_succ, List.length_cons, List.length_nil, List.append_nil, List.nil_append, List.cons_append, Nat.reduceAdd, Nat.zero_add, Nat.reduceSub, Nat.reduceLeDiff, Nat.reduceLT, Nat.reduceEqDiff, addU_int, addU_str, addU_tup, addU_lst, catL_lst, addI_int, subI_int, mulI_int, mulU_int, mulU_tup, repL_lst, fdivI_int, modI_int, powI_int, negD_int, ltI_int, leI_int, gtI_int, geI_int, isN_none, isN_bool, isN_int, isN_str, isN_lst, isN_tup, notN_none, notN_bool, notN_int, notN_str, notN_lst, notN_tup, truth_none, truth_bool, truth_int, truth_lst, truth_tup, boolOf_bool, intOf_int, tupleD_lst, tupleD_tup, listD_lst, listD_tup, itemsD_lst, itemsD_tup, slU_tup, slU_lst, itemU_tup, itemU_lst, itemD_tup, itemD_lst, lenD_lst, lenD_tup, isL_lst, appD_lst, setD_lst, revU_tup, rg1D_int, absD_int, repr1_one, enumU_tup, enumU_lst, isi_none, isi_bool, isi_int, isi_str, isi_lst, isi_tup, eqD_int, neD_int, eqD_bool, neD_bool, String.reduceBEq, Bool.or_false, Bool.or_true, Bool.false_or, Bool.true_or, Bool.not_not, true_and, and_true, Bool.not_true, Bool.not_false, Bool.and_true, Bool.and_false, Bool.true_and, Bool.false_and, if_true, if_false, reduceIte, decide_true, decide_false, lineN, Int.reduceAdd, Int.reduceSub, Int.reduceMul, Int.reduceNeg, Int.reduceLT, Int.reduceLE, Int.reduceEq, Int.reduceNe, Int.reduceGT, Int.reduceGE, Int.reduceToNat, ne_eq, not_true_eq_false, not_false_eq_true, Int.cast_ofNat_Int, WO_ite, WO_map, WO_bind, St_left, St_cell, St_turns, St_setL, St_setT, St_isKD, sumD_ls, minD_ls, maxD_ls, List.length_map, List.length_append, List.length_set, envD, List.map_cons, List.map_nil, List.replicate_succ, List.replicate_zero])
  | `(tactic| wp_walk using $ts,*) => `(tactic| simp only [W_ok, W_err, WR_ok, WR_err, WO_some, WI_true, WI_false, W_bnd, W_ret, W_lft, slot_some, W_var, W_lit, W_un, W_bin, W_app, W_itV, W_itA, W_nilA, W_consA, W_tupE, W_lstE, W_test, W_testB, W_notT, W_andT, W_orT, W_andV, W_orV, W_notV, W_ifE, W_chn, W_sliU, W_noPart, W_part, W_sq, W_nx, W_asg, W_drp, W_rtn, W_ifS, W_rai, W_fgt, forget_nil, forget_cons, restore_nil, restore_cons, List.getD_cons_zero, List.getD_cons_succ, W_brkS, W_cntS, W_asgL, setE_cons, setE_nil, setE_nil', W_asgT, W_tgN, W_tgT, W_tgs_nil, W_tgs_cons, W_chk, W_updI, W_appS, W_setS, W_setS2, W_augS, W_putS, W_popM, W_popE, W_popAtE, W_idxE, W_lrgE, W_pairs_nil, W_pairs_cons, W_dispE, W_callE, W_callK, W_callIO, W_tryS, W_forS, W_lcT, W_noT, List.getElem?_cons_zero, List.getElem?_cons_succ, List.getElem?_nil, List.set_cons_zero, List.set_cons_succ, List.length_cons, List.length_nil, List.append_nil, List.nil_append, List.cons_append, Nat.reduceAdd, Nat.zero_add, Nat.reduceSub, Nat.reduceLeDiff, Nat.reduceLT, Nat.reduceEqDiff, addU_int, addU_str, addU_tup, addU_lst, catL_lst, addI_int, subI_int, mulI_int, mulU_int, mulU_tup, repL_lst, fdivI_int, modI_int, powI_int, negD_int, ltI_int, leI_int, gtI_int, geI_int, isN_none, isN_bool, isN_int, isN_str, isN_lst, isN_tup, notN_none, notN_bool, notN_int, notN_str, notN_lst, notN_tup, truth_none, truth_bool, truth_int, truth_lst, truth_tup, boolOf_bool, intOf_int, tupleD_lst, tupleD_tup, listD_lst, listD_tup, itemsD_lst, itemsD_tup, slU_tup, slU_lst, itemU_tup, itemU_lst, itemD_tup, itemD_lst, lenD_lst, lenD_tup, isL_lst, appD_lst, setD_lst, revU_tup, rg1D_int, absD_int, repr1_one, enumU_tup, enumU_lst, isi_none, isi_bool, isi_int, isi_str, isi_lst, isi_tup, eqD_int, neD_int, eqD_bool, neD_bool, String.reduceBEq, Bool.or_false, Bool.or_true, Bool.false_or, Bool.true_or, Bool.not_not, true_and, and_true, Bool.not_true, Bool.not_false, Bool.and_true, Bool.and_false, Bool.true_and, Bool.false_and, if_true, if_false, reduceIte, decide_true, decide_false, lineN, Int.reduceAdd, Int.reduceSub, Int.reduceMul, Int.reduceNeg, Int.reduceLT, Int.reduceLE, Int.reduceEq, Int.reduceNe, Int.reduceGT, Int.reduceGE, Int.reduceToNat, ne_eq, not_true_eq_false, not_false_eq_true, Int.cast_ofNat_Int, WO_ite, WO_map, WO_bind, St_left, St_cell, St_turns, St_setL, St_setT, St_isKD, sumD_ls, minD_ls, maxD_ls, List.length_map, List.length_append, List.length_set, envD, List.map_cons, List.map_nil, List.replicate_succ, List.replicate_zero, $[$ts:term],*])
def c1 : S := asg 0 (lstE (nilA))
def c2 : S := forS (itV (tupE (consA (tupE (consA (lit .none) (consA (lit .none) (nilA)))) (consA (tupE (consA (tupE (nilA)) (consA (lit .none) (nilA)))) (consA (tupE (consA (lstE (consA (lit (.int 2)) (nilA))) (consA (lit .none) (nilA)))) (consA (tupE (consA (bin mulU (tupE (consA (lit (.int 2)) (nilA))) (lit (.int 25))) (consA (lit .none) (nilA)))) (consA (tupE (consA (tupE (consA (lit (.int 2)) (consA (lit .none) (nilA)))) (consA (lit (.int 1)) (nilA)))) (consA (tupE (consA (tupE (consA (lit (.int 2)) (consA (lit (.int 1001)) (nilA)))) (consA (lit (.int 1)) (nilA)))) (nilA))))))))) (tgT [tgN 1, tgN 2]) (sq (forS (itV (tupE (consA (lit (fnD "is_endless")) (consA (lit (fnD "left_of")) (consA (lit (fnD "endless_paper")) (consA (lit (fnD "row_trace")) (consA (lit (lamD 0)) (nilA)))))))) (tgN 3) (sq (tryS (sq (drp (callS tF tL 3 (consA (var 1) (nilA))))
  (fgt [] nx)) "BadRow" [] 4 (fun d => sq (appS 0 (eqE (lit d) (var 2)))
  (fgt [] nx)))
  (fgt [] nx)))
  (sq (tryS (sq (drp (callE f_entry_between [] (consA (var 1) (consA (lit .none) (consA (lit .none) (nilA))))))
  (fgt [] nx)) "BadRow" [] 4 (fun d => sq (appS 0 (eqE (lit d) (var 2)))
  (fgt [] nx)))
  (fgt [] nx)))
def c3 : S := forS (itV (tupE (consA (tupE (consA (lit (.int 2)) (consA (lit .none) (consA (lit (.int 2)) (nilA))))) (consA (tupE (consA (un negD (lit (.int 1))) (consA (lit .none) (consA (un negD (lit (.int 1))) (nilA))))) (consA (tupE (consA (lit (.bool true)) (consA (lit (.int 0)) (consA (lit (.bool true)) (nilA))))) (consA (tupE (consA (lit (.int 1)) (consA (lit (.int 0)) (consA (lit (.int 0)) (nilA))))) (consA (tupE (consA (lit (.int 1)) (consA (lit (.int 2002)) (consA (lit (.int 2002)) (nilA))))) (consA (tupE (consA (lit (.int 0)) (consA (lit .none) (consA (lit .none) (nilA))))) (nilA))))))))) (tgT [tgN 5, tgN 6, tgN 1]) (sq (tryS (sq (drp (callE f_entry_between [] (consA (tupE (consA (lit (.int 2)) (consA (lit (.int 3)) (nilA)))) (consA (var 5) (consA (var 6) (nilA))))))
  (fgt [] nx)) "BadNumber" [] 4 (fun d => sq (appS 0 (eqE (app repr1 (consA (lit d) nilA)) (app repr1 (consA (var 1) nilA))))
  (fgt [] nx)))
  (fgt [] nx))
theorem b_split : b__law_refused = sq c1 (sq c2 (sq c3 (sq (rtn (andV (eqE (var 0) (bin repL (lstE (consA (lit (.bool true)) (nilA))) (lit (.int 42)))) (eqE (callE f_entry_between [] (consA (tupE (consA (lit (.int 2)) (nilA))) (consA (lit (.int 0)) (consA (lit (.int 2000)) (nilA))))) (lit (.int 2000))))) stk))) := rfl
def ex1 (o : Out Dn.Flow) : Bool := match o with
  | .ok .next (some (.list xs) :: r) => (xs.length == 42) && xs.all (fun x => match x with | .bool true => true | _ => false) && (r.length == 6)
  | _ => false
theorem closed : ex1 (sq c1 (sq c2 (sq c3 nx)) (envD 7 [])) = true := by kernel_rfl
theorem sq_pre {a t : S} {ρ ρ1 : Dn.Env} (h : a ρ = .ok .next ρ1) : sq a t ρ = t ρ1 := by
  unfold sq bnd; rw [h]
theorem sq_nx {a : S} {ρ ρ1 : Dn.Env} (h : sq a nx ρ = .ok .next ρ1) : a ρ = .ok .next ρ1 := by
  unfold sq bnd at h
  cases e : a ρ with
  | ok f ρ2 =>
    rw [e] at h
    cases f with
    | next => exact h
    | _ => cases h
  | err c d ρ2 => rw [e] at h; cases h
  | stuck => rw [e] at h; cases h
theorem sq_inv {a b : S} {ρ ρ1 : Dn.Env} (h : sq a b ρ = .ok .next ρ1) : ∃ ρ2, a ρ = .ok .next ρ2 ∧ b ρ2 = .ok .next ρ1 := by
  unfold sq bnd at h
  cases e : a ρ with
  | ok f ρ2 =>
    rw [e] at h
    cases f with
    | next => exact ⟨ρ2, rfl, h⟩
    | _ => cases h
  | err c d ρ2 => rw [e] at h; cases h
  | stuck => rw [e] at h; cases h
theorem en_twos : ∀ k, en (rd [2]) 0 k = k ∧ en (rd [2]) 0 (k + 1) = k + 1
  | 0 => by simp [en]
  | k + 1 => by
    obtain ⟨h1, h2⟩ := en_twos k
    refine ⟨by rw [h2]; omega, ?_⟩
    have e : rd [2] (0 + k + 1) = 2 := by unfold rd; simp [Nat.mod_one]
    rw [en_two, h1, h2, e]; omega
theorem refused_ok : res (f__law_refused []) = .ok (.bool true) := by
  have cl := closed
  unfold ex1 at cl
  split at cl
  · rename_i xs r h
    simp only [Bool.and_eq_true, beq_iff_eq] at cl
    obtain ⟨⟨hl, hx⟩, hr⟩ := cl
    obtain ⟨ρ1, h1, h⟩ := sq_inv h
    obtain ⟨ρ2, h2, h⟩ := sq_inv h
    have h3 := sq_nx h
    have ex : xs = List.replicate 42 (.bool true) := by
      rw [List.all_eq_true] at hx
      rw [← hl, List.eq_replicate_iff]
      refine ⟨rfl, fun x m => ?_⟩
      have := hx x m
      split at this
      · rfl
      · cases this
    subst ex
    have row : Row [2] := ⟨by decide, by decide, by decide⟩
    have e := entry_between_ok row 0 2000 (by decide) (by decide)
    rw [(en_twos 2000).1] at e
    apply res_ok
    unfold f__law_refused
    apply W_b0
    rw [b_split, sq_pre (by exact h1), sq_pre h2, sq_pre h3]
    have e2 : (List.replicate 42 [PyData.bool true]).flatten = List.replicate 42 (.bool true) := rfl
    unfold ts at e
    simp only [W_ok, W_err, WR_ok, WR_err, WO_some, WI_true, WI_false, W_bnd, W_ret, W_lft, slot_some, W_var, W_lit, W_un, W_bin, W_app, W_itV, W_itA, W_nilA, W_consA, W_tupE, W_lstE, W_test, W_testB, W_notT, W_andT, W_orT, W_andV, W_orV, W_notV, W_ifE, W_chn, W_sliU, W_noPart, W_part, W_sq, W_nx, W_asg, W_drp, W_rtn, W_ifS, W_rai, W_fgt, forget_nil, forget_cons, restore_nil, restore_cons, List.getD_cons_zero, List.getD_cons_succ, W_brkS, W_cntS, W_asgL, setE_cons, setE_nil, setE_nil', W_asgT, W_tgN, W_tgT, W_tgs_nil, W_tgs_cons, W_chk, W_updI, W_appS, W_setS, W_setS2, W_augS, W_putS, W_popM, W_popE, W_popAtE, W_idxE, W_lrgE, W_pairs_nil, W_pairs_cons, W_dispE, W_callE, W_callK, W_callIO, W_tryS, W_forS, W_lcT, W_noT, List.getElem?_cons_zero, List.getElem?_cons_succ, List.getElem?_nil, List.set_cons_zero, List.set_cons_succ, List.length_cons, List.length_nil, List.append_nil, List.nil_append, List.cons_append, Nat.reduceAdd, Nat.zero_add, Nat.reduceSub, Nat.reduceLeDiff, Nat.reduceLT, Nat.reduceEqDiff, addU_int, addU_str, addU_tup, addU_lst, catL_lst, addI_int, subI_int, mulI_int, mulU_int, mulU_tup, repL_lst, fdivI_int, modI_int, powI_int, negD_int, ltI_int, leI_int, gtI_int, geI_int, isN_none, isN_bool, isN_int, isN_str, isN_lst, isN_tup, notN_none, notN_bool, notN_int, notN_str, notN_lst, notN_tup, truth_none, truth_bool, truth_int, truth_lst, truth_tup, boolOf_bool, intOf_int, tupleD_lst, tupleD_tup, listD_lst, listD_tup, itemsD_lst, itemsD_tup, slU_tup, slU_lst, itemU_tup, itemU_lst, itemD_tup, itemD_lst, lenD_lst, lenD_tup, isL_lst, appD_lst, setD_lst, revU_tup, rg1D_int, absD_int, repr1_one, enumU_tup, enumU_lst, isi_none, isi_bool, isi_int, isi_str, isi_lst, isi_tup, eqD_int, neD_int, eqD_bool, neD_bool, String.reduceBEq, Bool.or_false, Bool.or_true, Bool.false_or, Bool.true_or, Bool.not_not, true_and, and_true, Bool.not_true, Bool.not_false, Bool.and_true, Bool.and_false, Bool.true_and, Bool.false_and, if_true, if_false, reduceIte, decide_true, decide_false, lineN, Int.reduceAdd, Int.reduceSub, Int.reduceMul, Int.reduceNeg, Int.reduceLT, Int.reduceLE, Int.reduceEq, Int.reduceNe, Int.reduceGT, Int.reduceGE, Int.reduceToNat, ne_eq, not_true_eq_false, not_false_eq_true, Int.cast_ofNat_Int, WO_ite, WO_map, WO_bind, St_left, St_cell, St_turns, St_setL, St_setT, St_isKD, sumD_ls, minD_ls, maxD_ls, List.length_map, List.length_append, List.length_set, envD, List.map_cons, List.map_nil, List.replicate_zero, e2, eqD_self (d := .list (List.replicate 42 (.bool true))) (by decide +kernel), beq_self_eq_true, show res (f_entry_between [.tuple [.int 2], .int 0, .int 2000]) = .ok (.int 2000) from e]
    exact ⟨by decide, by decide, by decide⟩
  · cases cl
theorem r1 : res (f_is_endless [.tuple [.int 2]]) = .ok (.bool true) := by kernel_rfl
theorem r2 : res (f_is_endless [.tuple [.int 1]]) = .ok (.bool false) := by kernel_rfl
theorem r3 : res (f_is_endless [.tuple [.int 1, .int 4]]) = .ok (.bool true) := by kernel_rfl
theorem r4 : res (f_is_endless [.tuple [.int 1, .int 3]]) = .ok (.bool false) := by kernel_rfl
theorem r5 : res (f_is_endless [.tuple [.int 1, .int 1]]) = .ok (.bool false) := by kernel_rfl
theorem r6 : res (f_is_endless [.tuple [.int 0]]) = .ok (.bool false) := by kernel_rfl
theorem r7 : res (f_is_endless [.tuple [.int 1, .int 5, .int 1, .int 5]]) = .ok (.bool true) := by kernel_rfl
theorem r8 : res (f_is_endless [.tuple (List.replicate 24 (.int 2))]) = .ok (.bool true) := by kernel_rfl
theorem r9 : res (f_is_endless [.tuple (List.replicate 24 (.int 1000))]) = .ok (.bool true) := by kernel_rfl
theorem r10 : res (f_is_endless [.tuple [.int (-1000)]]) = .ok (.bool false) := by kernel_rfl
def xs7 : List D := [.tuple [.tuple [.int 2], .bool true], .tuple [.tuple [.int 1], .bool false], .tuple [.tuple [.int 1, .int 4], .bool true], .tuple [.tuple [.int 1, .int 3], .bool false], .tuple [.tuple [.int 1, .int 1], .bool false], .tuple [.tuple [.int 0], .bool false], .tuple [.tuple [.int 1, .int 5, .int 1, .int 5], .bool true]]
def gk : D → Option D
  | .tuple [_, y] => some y
  | _ => none
theorem law_ok (ns : List Int) : res (f_law [.list (ns.map .int)]) = .ok (.bool true) := by
  apply res_ok
  unfold f_law
  apply W_b1
  unfold b_law
  have hc : cutL (ns.map PyData.int) none (some 3) = (ns.map PyData.int).take 3 := cut_to (by omega)
  (wp_walk using hc, List.length_take)
  refine ⟨by omega, ?_⟩
  refine W_for (fun k ρ => ∃ ρ1 ρ2 ρ3, ρ = [some (.list (ns.map .int)), ρ1, ρ2, ρ3, none, none, none]) ⟨none, none, none, rfl⟩ (fun k x ρ hx ⟨ρ1, ρ2, ρ3, e⟩ => ?_) fun ρ ⟨ρ1, ρ2, ρ3, e⟩ => ?_
  · subst e
    rw [numL_get] at hx
    have hi : ∃ i, ((ns.map PyData.int).take 3 ++ [PyData.int ns.sum])[k]? = some (.int i) := by
      cases hy : ((ns.map PyData.int).take 3 ++ [PyData.int ns.sum])[k]? with
      | none => rw [hy] at hx; cases hx
      | some y =>
        have m := List.mem_of_getElem? hy
        rcases List.mem_append.mp m with m | m
        · obtain ⟨i, _, e⟩ := List.mem_map.mp (List.mem_of_mem_take m)
          exact ⟨i, by rw [e]⟩
        · exact ⟨ns.sum, by rw [List.mem_singleton.mp m]⟩
    obtain ⟨i, hi⟩ := hi
    have hk : k < 4 := by
      have := (List.getElem?_eq_some_iff.mp hi).1
      simp at this
      omega
    rw [hi] at hx
    cases hx
    obtain ⟨d, hd, l, rfl⟩ := draw_ok (c := i) (k := k) (by omega) (by omega)
    (wp_walk using hd)
    refine row_ok (n := 5) ⟨by omega, by omega⟩ fun rs l1 t1 ρ4 hr hb g1 e1 => ?_
    (wp_walk using e1)
    refine right_ok (n := 0) hr hb g1 fun l2 t2 ρ5 g2 e2 => ?_
    (wp_walk using e2)
    exact ⟨_, _, _, rfl⟩
  · subst e
    wp_walk
    have b2 : neD (.list [.bool true, .bool false, .bool true, .bool false, .bool false, .bool false, .bool true]) (.list [.bool true, .bool false, .bool true, .bool false, .bool false, .bool false, .bool true]) = some (.bool false) := neD_self (by decide +kernel)
    have e7 : xs7.filterMap gk = [.bool true, .bool false, .bool true, .bool false, .bool false, .bool false, .bool true] := rfl
    refine W_lcQ xs7 gk ?_ (by decide) (fun x hx => ?_) ?_
    · wp_walk
      rfl
    · simp only [xs7, List.mem_cons, List.not_mem_nil, or_false] at hx
      rcases hx with rfl | rfl | rfl | rfl | rfl | rfl | rfl <;> (wp_walk using r1, r2, r3, r4, r5, r6, r7) <;> rfl
    · rw [e7]
      wp_walk
      refine W_lcQ xs7 gk ?_ (by decide) (fun x hx => ?_) ?_
      · wp_walk
        rfl
      · simp only [xs7, List.mem_cons, List.not_mem_nil, or_false] at hx
        rcases hx with rfl | rfl | rfl | rfl | rfl | rfl | rfl <;> wp_walk <;> rfl
      · rw [e7]
        have f2 : (List.replicate 24 [PyData.int 2]).flatten = List.replicate 24 (.int 2) := rfl
        have f3 : (List.replicate 24 [PyData.int 1000]).flatten = List.replicate 24 (.int 1000) := rfl
        have b3 : neD (.list [.bool true, .bool true, .bool false]) (.list [.bool true, .bool true, .bool false]) = some (.bool false) := neD_self (by decide +kernel)
        simp only [W_ok, W_err, WR_ok, WR_err, WO_some, WI_true, WI_false, W_bnd, W_ret, W_lft, slot_some, W_var, W_lit, W_un, W_bin, W_app, W_itV, W_itA, W_nilA, W_consA, W_tupE, W_lstE, W_test, W_testB, W_notT, W_andT, W_orT, W_andV, W_orV, W_notV, W_ifE, W_chn, W_sliU, W_noPart, W_part, W_sq, W_nx, W_asg, W_drp, W_rtn, W_ifS, W_rai, W_fgt, forget_nil, forget_cons, restore_nil, restore_cons, List.getD_cons_zero, List.getD_cons_succ, W_brkS, W_cntS, W_asgL, setE_cons, setE_nil, setE_nil', W_asgT, W_tgN, W_tgT, W_tgs_nil, W_tgs_cons, W_chk, W_updI, W_appS, W_setS, W_setS2, W_augS, W_putS, W_popM, W_popE, W_popAtE, W_idxE, W_lrgE, W_pairs_nil, W_pairs_cons, W_dispE, W_callE, W_callK, W_callIO, W_tryS, W_forS, W_lcT, W_noT, List.getElem?_cons_zero, List.getElem?_cons_succ, List.getElem?_nil, List.set_cons_zero, List.set_cons_succ, List.length_cons, List.length_nil, List.append_nil, List.nil_append, List.cons_append, Nat.reduceAdd, Nat.zero_add, Nat.reduceSub, Nat.reduceLeDiff, Nat.reduceLT, Nat.reduceEqDiff, addU_int, addU_str, addU_tup, addU_lst, catL_lst, addI_int, subI_int, mulI_int, mulU_int, mulU_tup, repL_lst, fdivI_int, modI_int, powI_int, negD_int, ltI_int, leI_int, gtI_int, geI_int, isN_none, isN_bool, isN_int, isN_str, isN_lst, isN_tup, notN_none, notN_bool, notN_int, notN_str, notN_lst, notN_tup, truth_none, truth_bool, truth_int, truth_lst, truth_tup, boolOf_bool, intOf_int, tupleD_lst, tupleD_tup, listD_lst, listD_tup, itemsD_lst, itemsD_tup, slU_tup, slU_lst, itemU_tup, itemU_lst, itemD_tup, itemD_lst, lenD_lst, lenD_tup, isL_lst, appD_lst, setD_lst, revU_tup, rg1D_int, absD_int, repr1_one, enumU_tup, enumU_lst, isi_none, isi_bool, isi_int, isi_str, isi_lst, isi_tup, eqD_int, neD_int, eqD_bool, neD_bool, String.reduceBEq, Bool.or_false, Bool.or_true, Bool.false_or, Bool.true_or, Bool.not_not, true_and, and_true, Bool.not_true, Bool.not_false, Bool.and_true, Bool.and_false, Bool.true_and, Bool.false_and, if_true, if_false, reduceIte, decide_true, decide_false, lineN, Int.reduceAdd, Int.reduceSub, Int.reduceMul, Int.reduceNeg, Int.reduceLT, Int.reduceLE, Int.reduceEq, Int.reduceNe, Int.reduceGT, Int.reduceGE, Int.reduceToNat, ne_eq, not_true_eq_false, not_false_eq_true, Int.cast_ofNat_Int, WO_ite, WO_map, WO_bind, St_left, St_cell, St_turns, St_setL, St_setT, St_isKD, sumD_ls, minD_ls, maxD_ls, List.length_map, List.length_append, List.length_set, envD, List.map_cons, List.map_nil, List.replicate_zero, b2, f2, f3, r8, r9, r10, b3, refused_ok, reduceCtorEq]
end K60

/-! K60W -/
set_option Elab.async false
set_option linter.all false
set_option maxRecDepth 100000
set_option maxHeartbeats 4000000
namespace K60
open PySem PySem.Spec PyProof PyProof.Rows L2 Dn
def top (i : Nat) : Stmt := PySem.Challenge.pw_alwayswhole_k60_whole_endless_rows.main.body.getD i (.Pass ⟨0, 0, 0, 0⟩)
abbrev fs : List (Str × Str) := [("BadNumber", "value"), ("BadRow", "place"), ("BadPaper", "place")]
abbrev s__law_draw : Stmt := top 28
abbrev s_is_whole : Stmt := top 6
abbrev s_wrong_numbers : Stmt := top 10
abbrev s_need_numbers : Stmt := top 11
abbrev s_own_line : Stmt := top 12
abbrev s_own_entry : Stmt := top 13
abbrev s_own_step : Stmt := top 17
abbrev s_check_endless : Stmt := top 23
abbrev s_own_left : Stmt := top 18
abbrev s_endless_paper : Stmt := top 22
abbrev s_entry_between : Stmt := top 25
abbrev s_own_endless : Stmt := top 20
abbrev s_is_endless : Stmt := top 21
abbrev s_left_of : Stmt := top 19
abbrev s_own_trace : Stmt := top 14
abbrev s_row_trace : Stmt := top 24
abbrev s__law_refused : Stmt := top 40
abbrev s__law_mixed : Stmt := top 27
abbrev s__law_digit : Stmt := top 29
abbrev s__law_line : Stmt := top 31
abbrev s__law_without : Stmt := top 33
abbrev s__law_due : Stmt := top 36
abbrev s__law_left : Stmt := top 34
abbrev s__law_papers : Stmt := top 38
abbrev s__law_told : Stmt := top 37
abbrev s__law_trace : Stmt := top 35
abbrev s__law_right : Stmt := top 39
abbrev s__law_row : Stmt := top 32
abbrev s_law : Stmt := top 41
def lam_0 : LamSyn := lamOf "_law_refused.<locals>.<lambda>" (exA (stE (stB (stB s__law_refused 1) 0)) 4)
variable [LamTab]
structure Wd (P : Program) (w : World) (K : PySem.W.Frag) (mg : Str → Option Value) (base : Heap) : Prop where
  a__law_draw : mg "_law_draw" = some (.ref (He.ga K "_law_draw"))
  d__law_draw : ∃ fd, FunD K "_law_draw" "_law_draw" (defArgs s__law_draw) (defBody s__law_draw) (defScope s__law_draw) [] [] (He.ga K "_law_draw") fd
  a_is_whole : mg "is_whole" = some (.ref (He.ga K "is_whole"))
  d_is_whole : ∃ fd, FunD K "is_whole" "is_whole" (defArgs s_is_whole) (defBody s_is_whole) (defScope s_is_whole) [] [] (He.ga K "is_whole") fd
  a_wrong_numbers : mg "wrong_numbers" = some (.ref (He.ga K "wrong_numbers"))
  d_wrong_numbers : ∃ fd, FunD K "wrong_numbers" "wrong_numbers" (defArgs s_wrong_numbers) (defBody s_wrong_numbers) (defScope s_wrong_numbers) [] [] (He.ga K "wrong_numbers") fd
  a_need_numbers : mg "need_numbers" = some (.ref (He.ga K "need_numbers"))
  d_need_numbers : ∃ fd, FunD K "need_numbers" "need_numbers" (defArgs s_need_numbers) (defBody s_need_numbers) (defScope s_need_numbers) [] [] (He.ga K "need_numbers") fd
  a_own_line : mg "own_line" = some (.ref (He.ga K "own_line"))
  d_own_line : ∃ fd, FunD K "own_line" "own_line" (defArgs s_own_line) (defBody s_own_line) (defScope s_own_line) [] [] (He.ga K "own_line") fd
  a_own_entry : mg "own_entry" = some (.ref (He.ga K "own_entry"))
  d_own_entry : ∃ fd, FunD K "own_entry" "own_entry" (defArgs s_own_entry) (defBody s_own_entry) (defScope s_own_entry) [] [] (He.ga K "own_entry") fd
  a_own_step : mg "own_step" = some (.ref (He.ga K "own_step"))
  d_own_step : ∃ fd, FunD K "own_step" "own_step" (defArgs s_own_step) (defBody s_own_step) (defScope s_own_step) [] [] (He.ga K "own_step") fd
  a_check_endless : mg "check_endless" = some (.ref (He.ga K "check_endless"))
  d_check_endless : ∃ fd, FunD K "check_endless" "check_endless" (defArgs s_check_endless) (defBody s_check_endless) (defScope s_check_endless) [] [] (He.ga K "check_endless") fd
  a_own_left : mg "own_left" = some (.ref (He.ga K "own_left"))
  d_own_left : ∃ fd, FunD K "own_left" "own_left" (defArgs s_own_left) (defBody s_own_left) (defScope s_own_left) [] [] (He.ga K "own_left") fd
  a_endless_paper : mg "endless_paper" = some (.ref (He.ga K "endless_paper"))
  d_endless_paper : ∃ fd, FunD K "endless_paper" "endless_paper" (defArgs s_endless_paper) (defBody s_endless_paper) (defScope s_endless_paper) [] [] (He.ga K "endless_paper") fd
  a_entry_between : mg "entry_between" = some (.ref (He.ga K "entry_between"))
  d_entry_between : ∃ fd, FunD K "entry_between" "entry_between" (defArgs s_entry_between) (defBody s_entry_between) (defScope s_entry_between) [] [] (He.ga K "entry_between") fd
  a_own_endless : mg "own_endless" = some (.ref (He.ga K "own_endless"))
  d_own_endless : ∃ fd, FunD K "own_endless" "own_endless" (defArgs s_own_endless) (defBody s_own_endless) (defScope s_own_endless) [] [] (He.ga K "own_endless") fd
  a_is_endless : mg "is_endless" = some (.ref (He.ga K "is_endless"))
  d_is_endless : ∃ fd, FunD K "is_endless" "is_endless" (defArgs s_is_endless) (defBody s_is_endless) (defScope s_is_endless) [] [] (He.ga K "is_endless") fd
  a_left_of : mg "left_of" = some (.ref (He.ga K "left_of"))
  d_left_of : ∃ fd, FunD K "left_of" "left_of" (defArgs s_left_of) (defBody s_left_of) (defScope s_left_of) [] [] (He.ga K "left_of") fd
  a_own_trace : mg "own_trace" = some (.ref (He.ga K "own_trace"))
  d_own_trace : ∃ fd, FunD K "own_trace" "own_trace" (defArgs s_own_trace) (defBody s_own_trace) (defScope s_own_trace) [] [] (He.ga K "own_trace") fd
  a_row_trace : mg "row_trace" = some (.ref (He.ga K "row_trace"))
  d_row_trace : ∃ fd, FunD K "row_trace" "row_trace" (defArgs s_row_trace) (defBody s_row_trace) (defScope s_row_trace) [] [] (He.ga K "row_trace") fd
  a__law_refused : mg "_law_refused" = some (.ref (He.ga K "_law_refused"))
  d__law_refused : ∃ fd, FunD K "_law_refused" "_law_refused" (defArgs s__law_refused) (defBody s__law_refused) (defScope s__law_refused) [] [] (He.ga K "_law_refused") fd
  a__law_mixed : mg "_law_mixed" = some (.ref (He.ga K "_law_mixed"))
  d__law_mixed : ∃ fd, FunD K "_law_mixed" "_law_mixed" (defArgs s__law_mixed) (defBody s__law_mixed) (defScope s__law_mixed) [] [] (He.ga K "_law_mixed") fd
  a__law_digit : mg "_law_digit" = some (.ref (He.ga K "_law_digit"))
  d__law_digit : ∃ fd, FunD K "_law_digit" "_law_digit" (defArgs s__law_digit) (defBody s__law_digit) (defScope s__law_digit) [] [] (He.ga K "_law_digit") fd
  a__law_line : mg "_law_line" = some (.ref (He.ga K "_law_line"))
  d__law_line : ∃ fd, FunD K "_law_line" "_law_line" (defArgs s__law_line) (defBody s__law_line) (defScope s__law_line) [] [] (He.ga K "_law_line") fd
  a__law_without : mg "_law_without" = some (.ref (He.ga K "_law_without"))
  d__law_without : ∃ fd, FunD K "_law_without" "_law_without" (defArgs s__law_without) (defBody s__law_without) (defScope s__law_without) [] [] (He.ga K "_law_without") fd
  a__law_due : mg "_law_due" = some (.ref (He.ga K "_law_due"))
  d__law_due : ∃ fd, FunD K "_law_due" "_law_due" (defArgs s__law_due) (defBody s__law_due) (defScope s__law_due) [] [] (He.ga K "_law_due") fd
  a__law_left : mg "_law_left" = some (.ref (He.ga K "_law_left"))
  d__law_left : ∃ fd, FunD K "_law_left" "_law_left" (defArgs s__law_left) (defBody s__law_left) (defScope s__law_left) [] [] (He.ga K "_law_left") fd
  a__law_papers : mg "_law_papers" = some (.ref (He.ga K "_law_papers"))
  d__law_papers : ∃ fd, FunD K "_law_papers" "_law_papers" (defArgs s__law_papers) (defBody s__law_papers) (defScope s__law_papers) [] [] (He.ga K "_law_papers") fd
  a__law_told : mg "_law_told" = some (.ref (He.ga K "_law_told"))
  d__law_told : ∃ fd, FunD K "_law_told" "_law_told" (defArgs s__law_told) (defBody s__law_told) (defScope s__law_told) [] [] (He.ga K "_law_told") fd
  a__law_trace : mg "_law_trace" = some (.ref (He.ga K "_law_trace"))
  d__law_trace : ∃ fd, FunD K "_law_trace" "_law_trace" (defArgs s__law_trace) (defBody s__law_trace) (defScope s__law_trace) [] [] (He.ga K "_law_trace") fd
  a__law_right : mg "_law_right" = some (.ref (He.ga K "_law_right"))
  d__law_right : ∃ fd, FunD K "_law_right" "_law_right" (defArgs s__law_right) (defBody s__law_right) (defScope s__law_right) [] [] (He.ga K "_law_right") fd
  a__law_row : mg "_law_row" = some (.ref (He.ga K "_law_row"))
  d__law_row : ∃ fd, FunD K "_law_row" "_law_row" (defArgs s__law_row) (defBody s__law_row) (defScope s__law_row) [] [] (He.ga K "_law_row") fd
  a_law : mg "law" = some (.ref (He.ga K "law"))
  d_law : ∃ fd, FunD K "law" "law" (defArgs s_law) (defBody s_law) (defScope s_law) [] [] (He.ga K "law") fd
  z_bool : mg "bool" = none
  z_enumerate : mg "enumerate" = none
  z_int : mg "int" = none
  z_isinstance : mg "isinstance" = none
  z_len : mg "len" = none
  z_list : mg "list" = none
  z_min : mg "min" = none
  z_range : mg "range" = none
  z_repr : mg "repr" = none
  z_str : mg "str" = none
  z_sum : mg "sum" = none
  z_tuple : mg "tuple" = none
  c_MOST_ORDER : ∃ t, mg "MOST_ORDER" = some (.int 24 t)
  c_MOST_PART : ∃ t, mg "MOST_PART" = some (.int 1000 t)
  c_MOST_FAR : ∃ t, mg "MOST_FAR" = some (.int 2000 t)
  t__law_refused : LamX.TabB base mg (He.cT K ("_law_refused", none)).1 (He.cT K ("_law_refused", none)).2
  lm__law_refused : ((He.cT K ("_law_refused", none)).2, ("_law_refused.<locals>.<lambda>" : Str)) ∈ LamTab.tabs
  lu__law_refused : ∀ p ∈ LamTab.tabs, p.1 = (He.cT K ("_law_refused", none)).2 → p.2 = "_law_refused.<locals>.<lambda>"
  la_0 : LamTab.at_ 0 = some lam_0
  x_BadNumber : ExF P w K mg base 1 "BadNumber" "value" ["self", "value"]
  x_BadRow : ExF P w K mg base 1 "BadRow" "place" ["self", "place"]
  x_BadPaper : ExF P w K mg base 1 "BadPaper" "place" ["self", "place"]
section
variable {P : Program} {w : World} {K : PySem.W.Frag} {mg : Str → Option Value} {base : Heap}
theorem sc__law_draw : FnScope ["cell", "k"] ["cell", "k"] (defScope s__law_draw) := ⟨rfl, rfl, rfl, by decide +kernel, rfl, by decide +kernel, by decide +kernel⟩
theorem g__law_draw (W : Wd P w K mg base) {fd : FuncData} (F : FunD K "_law_draw" "_law_draw" (defArgs s__law_draw) (defBody s__law_draw) (defScope s__law_draw) [] [] (He.ga K "_law_draw") fd) : FnG P w K mg base 1 (He.ga K "_law_draw") fd ["cell", "k"] (spF K mg (exT K fs) (.new 1) f__law_draw) := by
  refine okF (k := 0) (b := false) (mn := [.fz, .fz]) (mb := [.fz, .fz]) (mc := [.fz, .fz]) F sc__law_draw rfl (by intro h; first | rfl | cases h) (fun cdv A0 outer s0 H E M hr S hc => ?_)
  have A := S.toAgr
  exact (ss_cons (m' := [.fz, .fz]) (sd_ret (pd_disp (pp_consD (fun F => pd_str) (fun F => (pd_ifE (td_ge (pd_var (i := 0) rfl) (pd_pow pd_int pd_int)) (pd_var (i := 0) rfl) pd_int)) (pp_consD (fun F => pd_str) (fun F => (pd_var (i := 0) rfl)) (pp_consD (fun F => pd_str) (fun F => (pd_mul (A).plus pd_int (pd_var (i := 1) rfl))) pp_nilD))))) ss_never)
theorem ok__law_draw (W : Wd P w K mg base) : Cal P w K mg base 1 "_law_draw" ["cell", "k"] (spF K mg (exT K fs) (.new 1) f__law_draw) := by
  obtain ⟨fd, F⟩ := W.d__law_draw
  exact ⟨_, fd, W.a__law_draw, F.kp, g__law_draw W F, bindsN F (fun _ _ _ _ _ _ us hl => match us, hl with | [_, _], _ => rfl)⟩
theorem sc_is_whole : FnScope ["thing", "least", "most"] ["thing", "least", "most"] (defScope s_is_whole) := ⟨rfl, rfl, rfl, by decide +kernel, rfl, by decide +kernel, by decide +kernel⟩
theorem g_is_whole (W : Wd P w K mg base) {fd : FuncData} (F : FunD K "is_whole" "is_whole" (defArgs s_is_whole) (defBody s_is_whole) (defScope s_is_whole) [] [] (He.ga K "is_whole") fd) : FnG P w K mg base 1 (He.ga K "is_whole") fd ["thing", "least", "most"] (spF K mg (exT K fs) .fz f_is_whole) := by
  refine okF (k := 0) (b := false) (mn := [.fz, .fz, .fz]) (mb := [.fz, .fz, .fz]) (mc := [.fz, .fz, .fz]) F sc_is_whole rfl (by intro h; first | rfl | cases h) (fun cdv A0 outer s0 H E M hr S hc => ?_)
  have A := S.toAgr
  exact (ss_cons (m' := [.fz, .fz, .fz]) (sd_ret (pd_and (pd_isi (T := "int") A (by decide) (by rfl) W.z_isinstance W.z_int (pd_var (i := 0) rfl)) (pd_and (pd_not (pd_isi (T := "bool") A (by decide) (by rfl) W.z_isinstance W.z_bool (pd_var (i := 0) rfl))) (pd_one (pd_chn o_le op_le o_le op_le (pd_var (i := 1) rfl) (pd_var (i := 0) rfl) (pd_var (i := 2) rfl)))))) ss_never)
theorem ok_is_whole (W : Wd P w K mg base) : Cal P w K mg base 1 "is_whole" ["thing", "least", "most"] (spF K mg (exT K fs) .fz f_is_whole) := by
  obtain ⟨fd, F⟩ := W.d_is_whole
  exact ⟨_, fd, W.a_is_whole, F.kp, g_is_whole W F, bindsN F (fun _ _ _ _ _ _ us hl => match us, hl with | [_, _, _], _ => rfl)⟩
theorem sc_wrong_numbers : FnScope ["thing", "least", "place", "part"] ["thing", "least"] (defScope s_wrong_numbers) := ⟨rfl, rfl, rfl, by decide +kernel, rfl, by decide +kernel, by decide +kernel⟩
theorem g_wrong_numbers (W : Wd P w K mg base) {fd : FuncData} (F : FunD K "wrong_numbers" "wrong_numbers" (defArgs s_wrong_numbers) (defBody s_wrong_numbers) (defScope s_wrong_numbers) [] [] (He.ga K "wrong_numbers") fd) : FnG P w K mg base 2 (He.ga K "wrong_numbers") fd ["thing", "least"] (spF K mg (exT K fs) .fz f_wrong_numbers) := by
  refine okF (k := 1) (b := false) (mn := [.fz, .fz, .fz, .fz]) (mb := [.fz, .fz, .fz, .fz]) (mc := [.fz, .fz, .fz, .fz]) F sc_wrong_numbers rfl (by intro h; first | rfl | cases h) (fun cdv A0 outer s0 H E M hr S hc => ?_)
  have A := S.toAgr
  exact (ss_cons (m' := [.fz, .fz, .fz, .fz]) (sd_if (PW.pt (tw_or (td_not (td_val A (pd_isi (T := "tuple") A (by decide) (by rfl) W.z_isinstance W.z_tuple (pd_var (i := 0) rfl)))) (tw_or1 (td_not (td_chn o_le op_le o_le op_le (pd_var (i := 1) rfl) (pd_b1 (f_len) call_lenA (by rfl) W.z_len (pd_var (i := 0) rfl)) (pd_gint A rfl W.c_MOST_ORDER)))))) (ss_cons (m' := [.fz, .fz, .fz, .fz]) (sd_ret (pd_fz (pd_lst (pa_consD pd_non pa_nilD)))) ss_never) (ss_nil []))
  (ss_cons (m' := [.fz, .fz, .fz, .fz]) (sd_ret (pd_fz (pd_lc A (pi_enumU A (pa_consD (pd_var (i := 0) rfl) pa_nilD) W.z_enumerate) (blkOk_by (own := [("place", 2), ("part", 3)]) (by rfl)) (fun s H Cc cl fp F => (tg_tup (Agr.blk A) (tg_cons (tg_name (i := 2) (Agr.blk A) rfl) (tg_cons (tg_name (i := 3) (Agr.blk A) rfl) tg_nil)))) (fun s H Cc cl fp F => (ts_one (td_not (td_val (Agr.blk A) (pd_c (Agr.blk A) (ok_is_whole W) (hr.mono (by decide)) (pa_consD (pd_var (i := 3) rfl) (pa_consD (pd_sub pd_int (pd_gint (Agr.blk A) rfl W.c_MOST_PART)) (pa_consD (pd_gint (Agr.blk A) rfl W.c_MOST_PART) pa_nilD)))))))) (fun s H Cc cl fp F => (pd_var (i := 2) rfl))))) ss_never))
theorem ok_wrong_numbers (W : Wd P w K mg base) : Cal P w K mg base 2 "wrong_numbers" ["thing", "least"] (spF K mg (exT K fs) .fz f_wrong_numbers) := by
  obtain ⟨fd, F⟩ := W.d_wrong_numbers
  exact ⟨_, fd, W.a_wrong_numbers, F.kp, g_wrong_numbers W F, bindsN F (fun _ _ _ _ _ _ us hl => match us, hl with | [_, _], _ => rfl)⟩
theorem sc_need_numbers : FnScope ["numbers", "least", "wrong"] ["numbers", "least"] (defScope s_need_numbers) := ⟨rfl, rfl, rfl, by decide +kernel, rfl, by decide +kernel, by decide +kernel⟩
theorem g_need_numbers (W : Wd P w K mg base) {fd : FuncData} (F : FunD K "need_numbers" "need_numbers" (defArgs s_need_numbers) (defBody s_need_numbers) (defScope s_need_numbers) [] [] (He.ga K "need_numbers") fd) : FnG P w K mg base 3 (He.ga K "need_numbers") fd ["numbers", "least"] (spF K mg (exT K fs) .fz f_need_numbers) := by
  refine okF (k := 2) (b := true) (mn := [.fz, .fz, .fz]) (mb := [.fz, .fz, .fz]) (mc := [.fz, .fz, .fz]) F sc_need_numbers rfl (by intro h; first | rfl | cases h) (fun cdv A0 outer s0 H E M hr S hc => ?_)
  have A := S.toAgr
  exact (ss_cons (m' := [.fz, .fz, .fz]) (sd_set (i := 2) A (pd_c A (ok_wrong_numbers W) (hr.mono (by decide)) (pa_consD (pd_var (i := 0) rfl) (pa_consD (pd_var (i := 1) rfl) pa_nilD))) rfl)
  (ss_cons (m' := [.fz, .fz, .fz]) (sd_if (td_ne A (pd_var (i := 2) rfl) (pd_lst pa_nilD)) (ss_cons (m' := [.fz, .fz, .fz]) (sd_rai A W.x_BadRow rfl (by decide) (hr.mono (by decide)) (pd_itemU A (pd_var (i := 2) rfl) pd_int)) ss_never) (ss_nil []))
  (ss_nil [])))
theorem ok_need_numbers (W : Wd P w K mg base) : Cal P w K mg base 3 "need_numbers" ["numbers", "least"] (spF K mg (exT K fs) .fz f_need_numbers) := by
  obtain ⟨fd, F⟩ := W.d_need_numbers
  exact ⟨_, fd, W.a_need_numbers, F.kp, g_need_numbers W F, bindsN F (fun _ _ _ _ _ _ us hl => match us, hl with | [_, _], _ => rfl)⟩
theorem sc_own_line : FnScope ["numbers", "start", "steps", "found", "step"] ["numbers", "start", "steps"] (defScope s_own_line) := ⟨rfl, rfl, rfl, by decide +kernel, rfl, by decide +kernel, by decide +kernel⟩
theorem g_own_line (W : Wd P w K mg base) {fd : FuncData} (F : FunD K "own_line" "own_line" (defArgs s_own_line) (defBody s_own_line) (defScope s_own_line) [] [] (He.ga K "own_line") fd) : FnG P w K mg base 1 (He.ga K "own_line") fd ["numbers", "start", "steps"] (spF K mg (exT K fs) .fz f_own_line) := by
  refine okF (k := 0) (b := false) (mn := [.fz, .fz, .fz, .fz, .fz]) (mb := [.fz, .fz, .fz, .fz, .fz]) (mc := [.fz, .fz, .fz, .fz, .fz]) F sc_own_line rfl (by intro h; first | rfl | cases h) (fun cdv A0 outer s0 H E M hr S hc => ?_)
  have A := S.toAgr
  exact (ss_cons (m' := [.fz, .fz, .fz, .ow 1, .fz]) (sd_set (i := 3) A (pd_lst (pa_consD pd_int (pa_consD pd_int pa_nilD))) rfl)
  (ss_cons (m' := [.fz, .fz, .fz, .ow 1, .fz]) (sd_for S (pi_rng2D (pa_consD pd_int (pa_consD (pd_var (i := 2) rfl) pa_nilD)) W.z_range) (tg_name (i := 4) A rfl) (ss_cons (m' := [.fz, .fz, .fz, .ow 1, .fz]) (sd_app (i := 3) (n := 0) A rfl (pd_sub (pd_mul A (pd_itemU A (pd_var (i := 0) rfl) (pd_mod (pd_add A (pd_var (i := 1) rfl) (pd_var (i := 4) rfl)) (pd_b1 (f_len) call_lenA (by rfl) W.z_len (pd_var (i := 0) rfl)))) (pd_b0 (pd_itemB (n := 0) A (pd_varB (i := 3) (n := 1) rfl) (pd_neg pd_int)))) (pd_b0 (pd_itemB (n := 0) A (pd_varB (i := 3) (n := 1) rfl) (pd_neg pd_int)))) rfl)
  (ss_nil [])))
  (ss_cons (m' := [.fz, .fz, .fz, .fz, .fz]) (sd_ret (pd_sli A (pd_varB (i := 3) (n := 1) rfl) po_noD (po_someD (pd_add A (pd_var (i := 2) rfl) pd_int)))) ss_never)))
theorem ok_own_line (W : Wd P w K mg base) : Cal P w K mg base 1 "own_line" ["numbers", "start", "steps"] (spF K mg (exT K fs) .fz f_own_line) := by
  obtain ⟨fd, F⟩ := W.d_own_line
  exact ⟨_, fd, W.a_own_line, F.kp, g_own_line W F, bindsN F (fun _ _ _ _ _ _ us hl => match us, hl with | [_, _, _], _ => rfl)⟩
theorem sc_own_entry : FnScope ["numbers", "one", "other"] ["numbers", "one", "other"] (defScope s_own_entry) := ⟨rfl, rfl, rfl, by decide +kernel, rfl, by decide +kernel, by decide +kernel⟩
theorem g_own_entry (W : Wd P w K mg base) {fd : FuncData} (F : FunD K "own_entry" "own_entry" (defArgs s_own_entry) (defBody s_own_entry) (defScope s_own_entry) [] [] (He.ga K "own_entry") fd) : FnG P w K mg base 2 (He.ga K "own_entry") fd ["numbers", "one", "other"] (spF K mg (exT K fs) .fz f_own_entry) := by
  refine okF (k := 1) (b := false) (mn := [.fz, .fz, .fz]) (mb := [.fz, .fz, .fz]) (mc := [.fz, .fz, .fz]) F sc_own_entry rfl (by intro h; first | rfl | cases h) (fun cdv A0 outer s0 H E M hr S hc => ?_)
  have A := S.toAgr
  exact (ss_cons (m' := [.fz, .fz, .fz]) (sd_ret (pd_itemU A (pd_c A (ok_own_line W) (hr.mono (by decide)) (pa_consD (pd_var (i := 0) rfl) (pa_consD (pd_var (i := 1) rfl) (pa_consD (pd_sub (pd_var (i := 2) rfl) (pd_var (i := 1) rfl)) pa_nilD)))) (pd_neg pd_int))) ss_never)
theorem ok_own_entry (W : Wd P w K mg base) : Cal P w K mg base 2 "own_entry" ["numbers", "one", "other"] (spF K mg (exT K fs) .fz f_own_entry) := by
  obtain ⟨fd, F⟩ := W.d_own_entry
  exact ⟨_, fd, W.a_own_entry, F.kp, g_own_entry W F, bindsN F (fun _ _ _ _ _ _ us hl => match us, hl with | [_, _, _], _ => rfl)⟩
theorem sc_own_step : FnScope ["marks", "row", "place", "found"] ["marks", "row", "place"] (defScope s_own_step) := ⟨rfl, rfl, rfl, by decide +kernel, rfl, by decide +kernel, by decide +kernel⟩
theorem g_own_step (W : Wd P w K mg base) {fd : FuncData} (F : FunD K "own_step" "own_step" (defArgs s_own_step) (defBody s_own_step) (defScope s_own_step) [] [] (He.ga K "own_step") fd) : FnG P w K mg base 1 (He.ga K "own_step") fd ["marks", "row", "place"] (spF K mg (exT K fs) .fz f_own_step) := by
  refine okF (k := 0) (b := false) (mn := [.fz, .fz, .fz, .fz]) (mb := [.fz, .fz, .fz, .fz]) (mc := [.fz, .fz, .fz, .fz]) F sc_own_step rfl (by intro h; first | rfl | cases h) (fun cdv A0 outer s0 H E M hr S hc => ?_)
  have A := S.toAgr
  exact (ss_cons (m' := [.fz, .fz, .fz, .ow 1]) (sd_set (i := 3) A (pd_t1 (f_list) call_list_of (by rfl) W.z_list (pd_var (i := 1) rfl)) rfl)
  (ss_cons (m' := [.fz, .fz, .fz, .ow 1]) (sd_augL (i := 3) A o_subI.d iop_sub rfl (pd_sub (pd_var (i := 2) rfl) pd_int) pd_int rfl)
  (ss_cons (m' := [.fz, .fz, .fz, .ow 1]) (sd_augL (i := 3) A o_subI.d iop_sub rfl (pd_mod (pd_add A (pd_var (i := 2) rfl) pd_int) (pd_b1 (f_len) call_lenA (by rfl) W.z_len (pd_varB (i := 3) (n := 1) rfl))) pd_int rfl)
  (ss_cons (m' := [.fz, .fz, .fz, .fz]) (sd_ret (pd_tup (pa_consD (pd_add A (pd_sli A (pd_var (i := 0) rfl) po_noD (po_someD (pd_var (i := 2) rfl))) (pd_sli A (pd_var (i := 0) rfl) (po_someD (pd_add A (pd_var (i := 2) rfl) pd_int)) po_noD)) (pa_consD (pd_add A (pd_sli A (pd_varB (i := 3) (n := 1) rfl) po_noD (po_someD (pd_var (i := 2) rfl))) (pd_sli A (pd_varB (i := 3) (n := 1) rfl) (po_someD (pd_add A (pd_var (i := 2) rfl) pd_int)) po_noD)) pa_nilD)))) ss_never))))
theorem ok_own_step (W : Wd P w K mg base) : Cal P w K mg base 1 "own_step" ["marks", "row", "place"] (spF K mg (exT K fs) .fz f_own_step) := by
  obtain ⟨fd, F⟩ := W.d_own_step
  exact ⟨_, fd, W.a_own_step, F.kp, g_own_step W F, bindsN F (fun _ _ _ _ _ _ us hl => match us, hl with | [_, _, _], _ => rfl)⟩
theorem sc_check_endless : FnScope ["numbers", "paper", "size", "marks", "row", "number", "place"] ["numbers", "paper"] (defScope s_check_endless) := ⟨rfl, rfl, rfl, by decide +kernel, rfl, by decide +kernel, by decide +kernel⟩
theorem g_check_endless (W : Wd P w K mg base) {fd : FuncData} (F : FunD K "check_endless" "check_endless" (defArgs s_check_endless) (defBody s_check_endless) (defScope s_check_endless) [] [] (He.ga K "check_endless") fd) : FnG P w K mg base 4 (He.ga K "check_endless") fd ["numbers", "paper"] (spF K mg (exT K fs) .fz f_check_endless) := by
  refine okF (k := 3) (b := false) (mn := [.fz, .fz, .fz, .fz, .fz, .fz, .fz]) (mb := [.fz, .fz, .fz, .fz, .fz, .fz, .fz]) (mc := [.fz, .fz, .fz, .fz, .fz, .fz, .fz]) F sc_check_endless rfl (by intro h; first | rfl | cases h) (fun cdv A0 outer s0 H E M hr S hc => ?_)
  have A := S.toAgr
  exact (ss_cons (m' := [.fz, .fz, .fz, .fz, .fz, .fz, .fz]) (sd_expr (pd_c A (ok_need_numbers W) (hr.mono (by decide)) (pa_consD (pd_var (i := 0) rfl) (pa_consD pd_int pa_nilD))))
  (ss_cons (m' := [.fz, .fz, .fz, .fz, .fz, .fz, .fz]) (sd_if (PW.pt (tw_or (td_not (td_val A (pd_isi (T := "tuple") A (by decide) (by rfl) W.z_isinstance W.z_tuple (pd_var (i := 1) rfl)))) (tw_or (td_not (td_chn o_le op_le o_le op_le pd_int (pd_b1 (f_len) call_lenA (by rfl) W.z_len (pd_var (i := 1) rfl)) pd_int)) (tw_or1 (td_not (td_val A (pd_isi (T := "str") A (by decide) (by rfl) W.z_isinstance W.z_str (pd_itemU A (pd_var (i := 1) rfl) pd_int)))))))) (ss_cons (m' := [.fz, .fz, .fz, .fz, .fz, .fz, .fz]) (sd_rai A W.x_BadPaper rfl (by decide) (hr.mono (by decide)) pd_non) ss_never) (ss_nil []))
  (ss_cons (m' := [.fz, .fz, .fz, .fz, .fz, .fz, .fz]) (sd_if (td_notIn A (pd_tup (pa_consD (pd_itemU A (pd_var (i := 1) rfl) pd_int) (pa_consD (pd_b1 (f_len) call_lenA (by rfl) W.z_len (pd_var (i := 1) rfl)) pa_nilD))) (pd_tup (pa_consD (pd_tup (pa_consD pd_str (pa_consD pd_int pa_nilD))) (pa_consD (pd_tup (pa_consD pd_str (pa_consD pd_int pa_nilD))) pa_nilD)))) (ss_cons (m' := [.fz, .fz, .fz, .fz, .fz, .fz, .fz]) (sd_rai A W.x_BadPaper rfl (by decide) (hr.mono (by decide)) pd_non) ss_never) (ss_nil []))
  (ss_cons (m' := [.fz, .fz, .fz, .fz, .fz, .fz, .fz]) (sd_if (td_eq A (pd_itemU A (pd_var (i := 1) rfl) pd_int) pd_str) (ss_cons (m' := [.fz, .fz, .fz, .fz, .fz, .fz, .fz]) (sd_set (i := 2) A (pd_b1 (f_len) call_lenA (by rfl) W.z_len (pd_var (i := 0) rfl)) rfl)
  (ss_cons (m' := [.fz, .fz, .fz, .fz, .fz, .fz, .fz]) (sd_if (PW.pt (tw_or (td_not (td_val A (pd_c A (ok_is_whole W) (hr.mono (by decide)) (pa_consD (pd_itemU A (pd_var (i := 1) rfl) pd_int) (pa_consD pd_int (pa_consD (pd_sub (pd_var (i := 2) rfl) pd_int) pa_nilD)))))) (tw_or1 (td_not (td_val A (pd_c A (ok_is_whole W) (hr.mono (by decide)) (pa_consD (pd_itemU A (pd_var (i := 1) rfl) pd_int) (pa_consD (pd_add A (pd_itemU A (pd_var (i := 1) rfl) pd_int) pd_int) (pa_consD (pd_add A (pd_itemU A (pd_var (i := 1) rfl) pd_int) (pd_mul A pd_int (pd_var (i := 2) rfl))) pa_nilD))))))))) (ss_cons (m' := [.fz, .fz, .fz, .fz, .fz, .fz, .fz]) (sd_rai A W.x_BadPaper rfl (by decide) (hr.mono (by decide)) pd_str) ss_never) (ss_nil []))
  (ss_cons (m' := [.fz, .fz, .fz, .fz, .fz, .fz, .fz]) (sd_if (td_gt (pd_c A (ok_own_entry W) (hr.mono (by decide)) (pa_consD (pd_var (i := 0) rfl) (pa_consD (pd_itemU A (pd_var (i := 1) rfl) pd_int) (pa_consD (pd_itemU A (pd_var (i := 1) rfl) pd_int) pa_nilD)))) pd_int) (ss_cons (m' := [.fz, .fz, .fz, .fz, .fz, .fz, .fz]) (sd_rai A W.x_BadPaper rfl (by decide) (hr.mono (by decide)) pd_str) ss_never) (ss_nil []))
  (ss_cons (m' := [.fz, .fz, .fz, .fz, .fz, .fz, .fz]) (sd_ret pd_str) ss_never)))) (ss_nil []))
  (ss_cons (m' := [.fz, .fz, .fz, .fz, .fz, .fz, .fz]) (sd_if (td_not (td_val A (pd_isi (T := "tuple") A (by decide) (by rfl) W.z_isinstance W.z_tuple (pd_itemU A (pd_var (i := 1) rfl) pd_int)))) (ss_cons (m' := [.fz, .fz, .fz, .fz, .fz, .fz, .fz]) (sd_rai A W.x_BadPaper rfl (by decide) (hr.mono (by decide)) pd_str) ss_never) (ss_nil []))
  (ss_cons (m' := [.fz, .fz, .fz, .fz, .fz, .fz, .fz]) (sd_par (i := 3) (j := 4) A (show PA _ _ (tAK _ _ _ [.fz, .fz] _) from (pk_cons (pd_fz (pd_listRg (pd_b1 (f_len) call_lenA (by rfl) W.z_len (pd_var (i := 0) rfl)) W.z_list W.z_range)) (fun F0 => (pk_cons (pd_fz (pd_t1 (f_list) call_list_of (by rfl) W.z_list (pd_var (i := 0) rfl))) (fun F1 => pk_nil))))) rfl rfl)
  (ss_cons (m' := [.fz, .fz, .fz, .fz, .fz, .fz, .fz]) (sd_for S (pi_enumU A (pa_consD (pd_itemU A (pd_var (i := 1) rfl) pd_int) pa_nilD) W.z_enumerate) (tg_tup A (tg_cons (tg_name (i := 5) A rfl) (tg_cons (tg_name (i := 6) A rfl) tg_nil))) (ss_cons (m' := [.fz, .fz, .fz, .fz, .fz, .fz, .fz]) (sd_if (PW.pt (tw_or (td_not (td_val A (pd_c A (ok_is_whole W) (hr.mono (by decide)) (pa_consD (pd_var (i := 6) rfl) (pa_consD pd_int (pa_consD (pd_sub (pd_b1 (f_len) call_lenA (by rfl) W.z_len (pd_var (i := 4) rfl)) pd_int) pa_nilD)))))) (tw_or (td_ne A (pd_itemU A (pd_var (i := 4) rfl) (pd_var (i := 6) rfl)) pd_int) (tw_or1 (td_eq A (pd_b1 (f_len) call_lenA (by rfl) W.z_len (pd_var (i := 4) rfl)) pd_int))))) (ss_cons (m' := [.fz, .fz, .fz, .fz, .fz, .fz, .fz]) (sd_rai A W.x_BadPaper rfl (by decide) (hr.mono (by decide)) (pd_var (i := 5) rfl)) ss_never) (ss_nil []))
  (ss_cons (m' := [.fz, .fz, .fz, .fz, .fz, .fz, .fz]) (sd_asgT (pd_c A (ok_own_step W) (hr.mono (by decide)) (pa_consD (pd_var (i := 3) rfl) (pa_consD (pd_var (i := 4) rfl) (pa_consD (pd_var (i := 6) rfl) pa_nilD)))) (tg_tup A (tg_cons (tg_name (i := 3) A rfl) (tg_cons (tg_name (i := 4) A rfl) tg_nil))))
  (ss_nil []))))
  (ss_cons (m' := [.fz, .fz, .fz, .fz, .fz, .fz, .fz]) (sd_if (td_lt (pd_b1 (f_min) (cr_min rfl) (by rfl) W.z_min (pd_var (i := 4) rfl)) pd_int) (ss_cons (m' := [.fz, .fz, .fz, .fz, .fz, .fz, .fz]) (sd_rai A W.x_BadPaper rfl (by decide) (hr.mono (by decide)) pd_str) ss_never) (ss_nil []))
  (ss_cons (m' := [.fz, .fz, .fz, .fz, .fz, .fz, .fz]) (sd_ret pd_str) ss_never)))))))))
theorem ok_check_endless (W : Wd P w K mg base) : Cal P w K mg base 4 "check_endless" ["numbers", "paper"] (spF K mg (exT K fs) .fz f_check_endless) := by
  obtain ⟨fd, F⟩ := W.d_check_endless
  exact ⟨_, fd, W.a_check_endless, F.kp, g_check_endless W F, bindsN F (fun _ _ _ _ _ _ us hl => match us, hl with | [_, _], _ => rfl)⟩
theorem k_check_endless_paper_numbers (W : Wd P w K mg base) : CalK P w K mg base 4 "check_endless" ["numbers", "paper"] ["paper", "numbers"] [1, 0] (spF K mg (exT K fs) .fz f_check_endless) := by
  obtain ⟨fd, F⟩ := W.d_check_endless
  exact ⟨_, fd, W.a_check_endless, F.kp, g_check_endless W F, kb0_of F (fun _ _ _ _ _ _ us hl => match us, hl with | [_, _], _ => rfl)⟩
theorem sc_own_left : FnScope ["numbers", "marks", "row", "steps", "place"] ["numbers"] (defScope s_own_left) := ⟨rfl, rfl, rfl, by decide +kernel, rfl, by decide +kernel, by decide +kernel⟩
theorem g_own_left (W : Wd P w K mg base) {fd : FuncData} (F : FunD K "own_left" "own_left" (defArgs s_own_left) (defBody s_own_left) (defScope s_own_left) [] [] (He.ga K "own_left") fd) : FnG P w K mg base 2 (He.ga K "own_left") fd ["numbers"] (spF K mg (exT K fs) .fz f_own_left) := by
  refine okF (k := 1) (b := false) (mn := [.fz, .fz, .fz, .fz, .fz]) (mb := [.fz, .fz, .fz, .fz, .fz]) (mc := [.fz, .fz, .fz, .fz, .fz]) F sc_own_left rfl (by intro h; first | rfl | cases h) (fun cdv A0 outer s0 H E M hr S hc => ?_)
  have A := S.toAgr
  exact (ss_cons (m' := [.fz, .fz, .fz, .ow 1, .fz]) (sd_par3 (i := 1) (j := 2) (l := 3) A (show PA _ _ (tAK _ _ _ [.fz, .fz, .new 1] _) from (pk_cons (pd_fz (pd_listRg (pd_b1 (f_len) call_lenA (by rfl) W.z_len (pd_var (i := 0) rfl)) W.z_list W.z_range)) (fun F0 => (pk_cons (pd_fz (pd_t1 (f_list) call_list_of (by rfl) W.z_list (pd_var (i := 0) rfl))) (fun F1 => (pk_cons (pd_lst pa_nilD) (fun F2 => pk_nil))))))) rfl rfl rfl)
  (ss_cons (m' := [.fz, .fz, .fz, .ow 1, .fz]) (sd_while S (PW.pt (tw_and (td_eq A (pd_b1 (f_min) (cr_min rfl) (by rfl) W.z_min (pd_var (i := 2) rfl)) pd_int) (tw_and1 (td_gt (pd_b1 (f_len) call_lenA (by rfl) W.z_len (pd_var (i := 2) rfl)) pd_int)))) (ss_cons (m' := [.fz, .fz, .fz, .ow 1, .fz]) (sd_set (i := 4) A (pd_index A (pd_var (i := 2) rfl) pd_int) rfl)
  (ss_cons (m' := [.fz, .fz, .fz, .ow 1, .fz]) (sd_app (i := 3) (n := 0) A rfl (pd_var (i := 4) rfl) rfl)
  (ss_cons (m' := [.fz, .fz, .fz, .ow 1, .fz]) (sd_asgT (pd_c A (ok_own_step W) (hr.mono (by decide)) (pa_consD (pd_var (i := 1) rfl) (pa_consD (pd_var (i := 2) rfl) (pa_consD (pd_var (i := 4) rfl) pa_nilD)))) (tg_tup A (tg_cons (tg_name (i := 1) A rfl) (tg_cons (tg_name (i := 2) A rfl) tg_nil))))
  (ss_nil [])))))
  (ss_conv (m' := [.fz, .fz, .fz, .fz, .fz]) [] (ss_cons (m' := [.fz, .fz, .fz, .fz, .fz]) (sd_ret (pd_tup (pa_consD (pd_var (i := 1) rfl) (pa_consD (pd_var (i := 2) rfl) (pa_consD (pd_var (i := 3) rfl) pa_nilD))))) ss_never))))
theorem ok_own_left (W : Wd P w K mg base) : Cal P w K mg base 2 "own_left" ["numbers"] (spF K mg (exT K fs) .fz f_own_left) := by
  obtain ⟨fd, F⟩ := W.d_own_left
  exact ⟨_, fd, W.a_own_left, F.kp, g_own_left W F, bindsN F (fun _ _ _ _ _ _ us hl => match us, hl with | [_], _ => rfl)⟩
theorem sc_endless_paper : FnScope ["numbers", "marks", "row", "steps", "size", "place", "before", "behind"] ["numbers"] (defScope s_endless_paper) := ⟨rfl, rfl, rfl, by decide +kernel, rfl, by decide +kernel, by decide +kernel⟩
theorem g_endless_paper (W : Wd P w K mg base) {fd : FuncData} (F : FunD K "endless_paper" "endless_paper" (defArgs s_endless_paper) (defBody s_endless_paper) (defScope s_endless_paper) [] [] (He.ga K "endless_paper") fd) : FnG P w K mg base 4 (He.ga K "endless_paper") fd ["numbers"] (spF K mg (exT K fs) .fz f_endless_paper) := by
  refine okF (k := 3) (b := false) (mn := [.fz, .fz, .fz, .fz, .fz, .fz, .fz, .fz]) (mb := [.fz, .fz, .fz, .fz, .fz, .fz, .fz, .fz]) (mc := [.fz, .fz, .fz, .fz, .fz, .fz, .fz, .fz]) F sc_endless_paper rfl (by intro h; first | rfl | cases h) (fun cdv A0 outer s0 H E M hr S hc => ?_)
  have A := S.toAgr
  exact (ss_cons (m' := [.fz, .fz, .fz, .fz, .fz, .fz, .fz, .fz]) (sd_expr (pd_c A (ok_need_numbers W) (hr.mono (by decide)) (pa_consD (pd_var (i := 0) rfl) (pa_consD pd_int pa_nilD))))
  (ss_cons (m' := [.fz, .fz, .fz, .fz, .fz, .fz, .fz, .fz]) (sd_asgT (pd_c A (ok_own_left W) (hr.mono (by decide)) (pa_consD (pd_var (i := 0) rfl) pa_nilD)) (tg_tup A (tg_cons (tg_name (i := 1) A rfl) (tg_cons (tg_name (i := 2) A rfl) (tg_cons (tg_name (i := 3) A rfl) tg_nil)))))
  (ss_cons (m' := [.fz, .fz, .fz, .fz, .fz, .fz, .fz, .fz]) (sd_if (td_gt (pd_b1 (f_min) (cr_min rfl) (by rfl) W.z_min (pd_var (i := 2) rfl)) pd_int) (ss_cons (m' := [.fz, .fz, .fz, .fz, .fz, .fz, .fz, .fz]) (sd_ret (pd_tup (pa_consD pd_str (pa_consD (pd_t1 (f_tuple) call_tuple_of (by rfl) W.z_tuple (pd_var (i := 3) rfl)) pa_nilD)))) ss_never) (ss_nil []))
  (ss_cons (m' := [.fz, .fz, .fz, .fz, .fz, .fz, .fz, .fz]) (sd_set (i := 4) A (pd_b1 (f_len) call_lenA (by rfl) W.z_len (pd_var (i := 0) rfl)) rfl)
  (ss_cons (m' := [.fz, .fz, .fz, .fz, .fz, .fz, .fz, .fz]) (sd_if (td_eq A (pd_b1 (f_min) (cr_min rfl) (by rfl) W.z_min (pd_var (i := 2) rfl)) pd_int) (ss_cons (m' := [.fz, .fz, .fz, .fz, .fz, .fz, .fz, .fz]) (sd_ret (pd_tup (pa_consD pd_str (pa_consD (pd_itemU A (pd_var (i := 1) rfl) pd_int) (pa_consD (pd_add A (pd_itemU A (pd_var (i := 1) rfl) pd_int) (pd_mul A pd_int (pd_var (i := 4) rfl))) pa_nilD))))) ss_never) (ss_nil []))
  (ss_cons (m' := [.fz, .fz, .fz, .fz, .fz, .fz, .fz, .fz]) (sd_set (i := 5) A (pd_index A (pd_var (i := 2) rfl) (pd_b1 (f_min) (cr_min rfl) (by rfl) W.z_min (pd_var (i := 2) rfl))) rfl)
  (ss_cons (m' := [.fz, .fz, .fz, .fz, .fz, .fz, .fz, .fz]) (sd_par (i := 6) (j := 7) A (show PA _ _ (tAK _ _ _ [.fz, .fz] _) from (pk_cons (pd_itemU A (pd_var (i := 1) rfl) (pd_sub (pd_var (i := 5) rfl) pd_int)) (fun F0 => (pk_cons (pd_itemU (Agr.plus A) (pd_var (i := 1) rfl) (pd_mod (pd_add (Agr.plus A) (pd_var (i := 5) rfl) pd_int) (pd_b1 (f_len) call_lenA (by rfl) W.z_len (pd_var (i := 1) rfl)))) (fun F1 => pk_nil))))) rfl rfl)
  (ss_cons (m' := [.fz, .fz, .fz, .fz, .fz, .fz, .fz, .fz]) (sd_if (td_ge (pd_var (i := 6) rfl) (pd_itemU A (pd_var (i := 1) rfl) (pd_var (i := 5) rfl))) (ss_cons (m' := [.fz, .fz, .fz, .fz, .fz, .fz, .fz, .fz]) (sd_aug (i := 6) A o_subI.d iop_sub rfl (pd_var (i := 4) rfl) rfl)
  (ss_nil [])) (ss_nil []))
  (ss_cons (m' := [.fz, .fz, .fz, .fz, .fz, .fz, .fz, .fz]) (sd_if (td_le (pd_var (i := 7) rfl) (pd_itemU A (pd_var (i := 1) rfl) (pd_var (i := 5) rfl))) (ss_cons (m' := [.fz, .fz, .fz, .fz, .fz, .fz, .fz, .fz]) (sd_aug (i := 7) A o_addI.d iop_add rfl (pd_var (i := 4) rfl) rfl)
  (ss_nil [])) (ss_nil []))
  (ss_cons (m' := [.fz, .fz, .fz, .fz, .fz, .fz, .fz, .fz]) (sd_ret (pd_ifE (td_ge (pd_var (i := 6) rfl) pd_int) (pd_tup (pa_consD pd_str (pa_consD (pd_var (i := 6) rfl) (pa_consD (pd_var (i := 7) rfl) pa_nilD)))) (pd_tup (pa_consD pd_str (pa_consD (pd_add A (pd_var (i := 6) rfl) (pd_var (i := 4) rfl)) (pa_consD (pd_add A (pd_var (i := 7) rfl) (pd_var (i := 4) rfl)) pa_nilD)))))) ss_never))))))))))
theorem ok_endless_paper (W : Wd P w K mg base) : Cal P w K mg base 4 "endless_paper" ["numbers"] (spF K mg (exT K fs) .fz f_endless_paper) := by
  obtain ⟨fd, F⟩ := W.d_endless_paper
  exact ⟨_, fd, W.a_endless_paper, F.kp, g_endless_paper W F, bindsN F (fun _ _ _ _ _ _ us hl => match us, hl with | [_], _ => rfl)⟩
theorem k_endless_paper_numbers (W : Wd P w K mg base) : CalK P w K mg base 4 "endless_paper" ["numbers"] ["numbers"] [0] (spF K mg (exT K fs) .fz f_endless_paper) := by
  obtain ⟨fd, F⟩ := W.d_endless_paper
  exact ⟨_, fd, W.a_endless_paper, F.kp, g_endless_paper W F, kb0_of F (fun _ _ _ _ _ _ us hl => match us, hl with | [_], _ => rfl)⟩
theorem sc_entry_between : FnScope ["numbers", "one", "other"] ["numbers", "one", "other"] (defScope s_entry_between) := ⟨rfl, rfl, rfl, by decide +kernel, rfl, by decide +kernel, by decide +kernel⟩
theorem g_entry_between (W : Wd P w K mg base) {fd : FuncData} (F : FunD K "entry_between" "entry_between" (defArgs s_entry_between) (defBody s_entry_between) (defScope s_entry_between) [] [] (He.ga K "entry_between") fd) : FnG P w K mg base 4 (He.ga K "entry_between") fd ["numbers", "one", "other"] (spF K mg (exT K fs) .fz f_entry_between) := by
  refine okF (k := 3) (b := false) (mn := [.fz, .fz, .fz]) (mb := [.fz, .fz, .fz]) (mc := [.fz, .fz, .fz]) F sc_entry_between rfl (by intro h; first | rfl | cases h) (fun cdv A0 outer s0 H E M hr S hc => ?_)
  have A := S.toAgr
  exact (ss_cons (m' := [.fz, .fz, .fz]) (sd_expr (pd_c A (ok_need_numbers W) (hr.mono (by decide)) (pa_consD (pd_var (i := 0) rfl) (pa_consD pd_int pa_nilD))))
  (ss_cons (m' := [.fz, .fz, .fz]) (sd_if (td_not (td_val A (pd_c A (ok_is_whole W) (hr.mono (by decide)) (pa_consD (pd_var (i := 1) rfl) (pa_consD pd_int (pa_consD (pd_sub (pd_b1 (f_len) call_lenA (by rfl) W.z_len (pd_var (i := 0) rfl)) pd_int) pa_nilD)))))) (ss_cons (m' := [.fz, .fz, .fz]) (sd_rai A W.x_BadNumber rfl (by decide) (hr.mono (by decide)) (pd_var (i := 1) rfl)) ss_never) (ss_nil []))
  (ss_cons (m' := [.fz, .fz, .fz]) (sd_if (td_not (td_val A (pd_c A (ok_is_whole W) (hr.mono (by decide)) (pa_consD (pd_var (i := 2) rfl) (pa_consD (pd_var (i := 1) rfl) (pa_consD (pd_add A (pd_var (i := 1) rfl) (pd_gint A rfl W.c_MOST_FAR)) pa_nilD)))))) (ss_cons (m' := [.fz, .fz, .fz]) (sd_rai A W.x_BadNumber rfl (by decide) (hr.mono (by decide)) (pd_var (i := 2) rfl)) ss_never) (ss_nil []))
  (ss_cons (m' := [.fz, .fz, .fz]) (sd_ret (pd_c A (ok_own_entry W) (hr.mono (by decide)) (pa_consD (pd_var (i := 0) rfl) (pa_consD (pd_var (i := 1) rfl) (pa_consD (pd_var (i := 2) rfl) pa_nilD))))) ss_never))))
theorem ok_entry_between (W : Wd P w K mg base) : Cal P w K mg base 4 "entry_between" ["numbers", "one", "other"] (spF K mg (exT K fs) .fz f_entry_between) := by
  obtain ⟨fd, F⟩ := W.d_entry_between
  exact ⟨_, fd, W.a_entry_between, F.kp, g_entry_between W F, bindsN F (fun _ _ _ _ _ _ us hl => match us, hl with | [_, _, _], _ => rfl)⟩
theorem k_entry_between_other_one_numbers (W : Wd P w K mg base) : CalK P w K mg base 4 "entry_between" ["numbers", "one", "other"] ["other", "one", "numbers"] [2, 1, 0] (spF K mg (exT K fs) .fz f_entry_between) := by
  obtain ⟨fd, F⟩ := W.d_entry_between
  exact ⟨_, fd, W.a_entry_between, F.kp, g_entry_between W F, kb0_of F (fun _ _ _ _ _ _ us hl => match us, hl with | [_, _, _], _ => rfl)⟩
theorem sc_own_endless : FnScope ["numbers"] ["numbers"] (defScope s_own_endless) := ⟨rfl, rfl, rfl, by decide +kernel, rfl, by decide +kernel, by decide +kernel⟩
theorem g_own_endless (W : Wd P w K mg base) {fd : FuncData} (F : FunD K "own_endless" "own_endless" (defArgs s_own_endless) (defBody s_own_endless) (defScope s_own_endless) [] [] (He.ga K "own_endless") fd) : FnG P w K mg base 3 (He.ga K "own_endless") fd ["numbers"] (spF K mg (exT K fs) .fz f_own_endless) := by
  refine okF (k := 2) (b := false) (mn := [.fz]) (mb := [.fz]) (mc := [.fz]) F sc_own_endless rfl (by intro h; first | rfl | cases h) (fun cdv A0 outer s0 H E M hr S hc => ?_)
  have A := S.toAgr
  exact (ss_cons (m' := [.fz]) (sd_ret (pd_gt (pd_b1 (f_min) (cr_min rfl) (by rfl) W.z_min (pd_itemU A (pd_c A (ok_own_left W) (hr.mono (by decide)) (pa_consD (pd_var (i := 0) rfl) pa_nilD)) pd_int)) pd_int)) ss_never)
theorem ok_own_endless (W : Wd P w K mg base) : Cal P w K mg base 3 "own_endless" ["numbers"] (spF K mg (exT K fs) .fz f_own_endless) := by
  obtain ⟨fd, F⟩ := W.d_own_endless
  exact ⟨_, fd, W.a_own_endless, F.kp, g_own_endless W F, bindsN F (fun _ _ _ _ _ _ us hl => match us, hl with | [_], _ => rfl)⟩
theorem sc_is_endless : FnScope ["numbers"] ["numbers"] (defScope s_is_endless) := ⟨rfl, rfl, rfl, by decide +kernel, rfl, by decide +kernel, by decide +kernel⟩
theorem g_is_endless (W : Wd P w K mg base) {fd : FuncData} (F : FunD K "is_endless" "is_endless" (defArgs s_is_endless) (defBody s_is_endless) (defScope s_is_endless) [] [] (He.ga K "is_endless") fd) : FnG P w K mg base 4 (He.ga K "is_endless") fd ["numbers"] (spF K mg (exT K fs) .fz f_is_endless) := by
  refine okF (k := 3) (b := false) (mn := [.fz]) (mb := [.fz]) (mc := [.fz]) F sc_is_endless rfl (by intro h; first | rfl | cases h) (fun cdv A0 outer s0 H E M hr S hc => ?_)
  have A := S.toAgr
  exact (ss_cons (m' := [.fz]) (sd_expr (pd_c A (ok_need_numbers W) (hr.mono (by decide)) (pa_consD (pd_var (i := 0) rfl) (pa_consD pd_int pa_nilD))))
  (ss_cons (m' := [.fz]) (sd_ret (pd_c A (ok_own_endless W) (hr.mono (by decide)) (pa_consD (pd_var (i := 0) rfl) pa_nilD))) ss_never))
theorem ok_is_endless (W : Wd P w K mg base) : Cal P w K mg base 4 "is_endless" ["numbers"] (spF K mg (exT K fs) .fz f_is_endless) := by
  obtain ⟨fd, F⟩ := W.d_is_endless
  exact ⟨_, fd, W.a_is_endless, F.kp, g_is_endless W F, bindsN F (fun _ _ _ _ _ _ us hl => match us, hl with | [_], _ => rfl)⟩
theorem k_is_endless_numbers (W : Wd P w K mg base) : CalK P w K mg base 4 "is_endless" ["numbers"] ["numbers"] [0] (spF K mg (exT K fs) .fz f_is_endless) := by
  obtain ⟨fd, F⟩ := W.d_is_endless
  exact ⟨_, fd, W.a_is_endless, F.kp, g_is_endless W F, kb0_of F (fun _ _ _ _ _ _ us hl => match us, hl with | [_], _ => rfl)⟩
theorem sc_left_of : FnScope ["numbers"] ["numbers"] (defScope s_left_of) := ⟨rfl, rfl, rfl, by decide +kernel, rfl, by decide +kernel, by decide +kernel⟩
theorem g_left_of (W : Wd P w K mg base) {fd : FuncData} (F : FunD K "left_of" "left_of" (defArgs s_left_of) (defBody s_left_of) (defScope s_left_of) [] [] (He.ga K "left_of") fd) : FnG P w K mg base 4 (He.ga K "left_of") fd ["numbers"] (spF K mg (exT K fs) .fz f_left_of) := by
  refine okF (k := 3) (b := false) (mn := [.fz]) (mb := [.fz]) (mc := [.fz]) F sc_left_of rfl (by intro h; first | rfl | cases h) (fun cdv A0 outer s0 H E M hr S hc => ?_)
  have A := S.toAgr
  exact (ss_cons (m' := [.fz]) (sd_expr (pd_c A (ok_need_numbers W) (hr.mono (by decide)) (pa_consD (pd_var (i := 0) rfl) (pa_consD pd_int pa_nilD))))
  (ss_cons (m' := [.fz]) (sd_ret (pd_t1 (f_tuple) call_tuple_of (by rfl) W.z_tuple (pd_itemU A (pd_c A (ok_own_left W) (hr.mono (by decide)) (pa_consD (pd_var (i := 0) rfl) pa_nilD)) pd_int))) ss_never))
theorem ok_left_of (W : Wd P w K mg base) : Cal P w K mg base 4 "left_of" ["numbers"] (spF K mg (exT K fs) .fz f_left_of) := by
  obtain ⟨fd, F⟩ := W.d_left_of
  exact ⟨_, fd, W.a_left_of, F.kp, g_left_of W F, bindsN F (fun _ _ _ _ _ _ us hl => match us, hl with | [_], _ => rfl)⟩
theorem k_left_of_numbers (W : Wd P w K mg base) : CalK P w K mg base 4 "left_of" ["numbers"] ["numbers"] [0] (spF K mg (exT K fs) .fz f_left_of) := by
  obtain ⟨fd, F⟩ := W.d_left_of
  exact ⟨_, fd, W.a_left_of, F.kp, g_left_of W F, kb0_of F (fun _ _ _ _ _ _ us hl => match us, hl with | [_], _ => rfl)⟩
theorem sc_own_trace : FnScope ["numbers", "size"] ["numbers"] (defScope s_own_trace) := ⟨rfl, rfl, rfl, by decide +kernel, rfl, by decide +kernel, by decide +kernel⟩
theorem g_own_trace (W : Wd P w K mg base) {fd : FuncData} (F : FunD K "own_trace" "own_trace" (defArgs s_own_trace) (defBody s_own_trace) (defScope s_own_trace) [] [] (He.ga K "own_trace") fd) : FnG P w K mg base 3 (He.ga K "own_trace") fd ["numbers"] (spF K mg (exT K fs) .fz f_own_trace) := by
  refine okF (k := 2) (b := false) (mn := [.fz, .fz]) (mb := [.fz, .fz]) (mc := [.fz, .fz]) F sc_own_trace rfl (by intro h; first | rfl | cases h) (fun cdv A0 outer s0 H E M hr S hc => ?_)
  have A := S.toAgr
  exact (ss_cons (m' := [.fz, .fz]) (sd_set (i := 1) A (pd_b1 (f_len) call_lenA (by rfl) W.z_len (pd_var (i := 0) rfl)) rfl)
  (ss_cons (m' := [.fz, .fz]) (sd_ret (pd_sub (pd_c A (ok_own_entry W) (hr.mono (by decide)) (pa_consD (pd_var (i := 0) rfl) (pa_consD pd_int (pa_consD (pd_add A (pd_var (i := 1) rfl) pd_int) pa_nilD)))) (pd_c A (ok_own_entry W) (hr.mono (by decide)) (pa_consD (pd_var (i := 0) rfl) (pa_consD pd_int (pa_consD (pd_var (i := 1) rfl) pa_nilD)))))) ss_never))
theorem ok_own_trace (W : Wd P w K mg base) : Cal P w K mg base 3 "own_trace" ["numbers"] (spF K mg (exT K fs) .fz f_own_trace) := by
  obtain ⟨fd, F⟩ := W.d_own_trace
  exact ⟨_, fd, W.a_own_trace, F.kp, g_own_trace W F, bindsN F (fun _ _ _ _ _ _ us hl => match us, hl with | [_], _ => rfl)⟩
theorem sc_row_trace : FnScope ["numbers"] ["numbers"] (defScope s_row_trace) := ⟨rfl, rfl, rfl, by decide +kernel, rfl, by decide +kernel, by decide +kernel⟩
theorem g_row_trace (W : Wd P w K mg base) {fd : FuncData} (F : FunD K "row_trace" "row_trace" (defArgs s_row_trace) (defBody s_row_trace) (defScope s_row_trace) [] [] (He.ga K "row_trace") fd) : FnG P w K mg base 4 (He.ga K "row_trace") fd ["numbers"] (spF K mg (exT K fs) .fz f_row_trace) := by
  refine okF (k := 3) (b := false) (mn := [.fz]) (mb := [.fz]) (mc := [.fz]) F sc_row_trace rfl (by intro h; first | rfl | cases h) (fun cdv A0 outer s0 H E M hr S hc => ?_)
  have A := S.toAgr
  exact (ss_cons (m' := [.fz]) (sd_expr (pd_c A (ok_need_numbers W) (hr.mono (by decide)) (pa_consD (pd_var (i := 0) rfl) (pa_consD pd_int pa_nilD))))
  (ss_cons (m' := [.fz]) (sd_ret (pd_c A (ok_own_trace W) (hr.mono (by decide)) (pa_consD (pd_var (i := 0) rfl) pa_nilD))) ss_never))
theorem ok_row_trace (W : Wd P w K mg base) : Cal P w K mg base 4 "row_trace" ["numbers"] (spF K mg (exT K fs) .fz f_row_trace) := by
  obtain ⟨fd, F⟩ := W.d_row_trace
  exact ⟨_, fd, W.a_row_trace, F.kp, g_row_trace W F, bindsN F (fun _ _ _ _ _ _ us hl => match us, hl with | [_], _ => rfl)⟩
theorem k_row_trace_numbers (W : Wd P w K mg base) : CalK P w K mg base 4 "row_trace" ["numbers"] ["numbers"] [0] (spF K mg (exT K fs) .fz f_row_trace) := by
  obtain ⟨fd, F⟩ := W.d_row_trace
  exact ⟨_, fd, W.a_row_trace, F.kp, g_row_trace W F, kb0_of F (fun _ _ _ _ _ _ us hl => match us, hl with | [_], _ => rfl)⟩
theorem sl_0 : FnScope ["some"] ["some"] lam_0.scope := ⟨rfl, rfl, rfl, by decide +kernel, rfl, by decide +kernel, by decide +kernel⟩
theorem lf_0 (W : Wd P w K mg base) : LamF P w K mg base 5 lam_0 (spF K mg (exT K fs) .fz fl_0) :=
  lamF_of (k := 4) (q := true) sl_0 (fun _ _ _ us hl => match us, hl with | [_], _ => rfl) (fun cdv A0 outer f s0 H E M hr A => (pd_c A (ok_check_endless W) (hr.mono (by decide)) (pa_consD (pd_var (i := 0) rfl) (pa_consD pd_non pa_nilD))))
theorem tF_ok (W : Wd P w K mg base) : ∀ y f, tF y = some f → ∃ ps, Cal P w K mg base 5 y ps (spF K mg (exT K fs) .fz f) := by
  intro y f h
  unfold tF at h
  by_cases e : y = "is_endless"
  · rw [if_pos e] at h; cases h; subst e; exact ⟨_, (ok_is_endless W).le (by decide)⟩
  rw [if_neg e] at h; clear e
  by_cases e : y = "left_of"
  · rw [if_pos e] at h; cases h; subst e; exact ⟨_, (ok_left_of W).le (by decide)⟩
  rw [if_neg e] at h; clear e
  by_cases e : y = "endless_paper"
  · rw [if_pos e] at h; cases h; subst e; exact ⟨_, (ok_endless_paper W).le (by decide)⟩
  rw [if_neg e] at h; clear e
  by_cases e : y = "row_trace"
  · rw [if_pos e] at h; cases h; subst e; exact ⟨_, (ok_row_trace W).le (by decide)⟩
  rw [if_neg e] at h; clear e
  cases h
theorem tL_ok (W : Wd P w K mg base) : ∀ n l f, tL n = some f → LamTab.at_ n = some l → LamF P w K mg base 5 l (spF K mg (exT K fs) .fz f) := by
  intro n l f h hl
  unfold tL at h
  by_cases e : n = 0
  · rw [if_pos e] at h; cases h; subst e; rw [W.la_0] at hl; cases hl; exact (lf_0 W).le (by decide)
  rw [if_neg e] at h; clear e
  cases h
theorem sc__law_refused : FnScope ["caught", "bad", "place", "deed", "error", "one", "other"] [] (defScope s__law_refused) := ⟨rfl, rfl, rfl, by decide +kernel, rfl, by decide +kernel, by decide +kernel⟩
theorem g__law_refused (W : Wd P w K mg base) {fd : FuncData} (F : FunD K "_law_refused" "_law_refused" (defArgs s__law_refused) (defBody s__law_refused) (defScope s__law_refused) [] [] (He.ga K "_law_refused") fd) : FnG P w K mg base 6 (He.ga K "_law_refused") fd [] (spF K mg (exT K fs) .fz f__law_refused) := by
  refine okF (k := 5) (b := false) (mn := [.fz, .fz, .fz, .fz, .fz, .fz, .fz]) (mb := [.fz, .fz, .fz, .fz, .fz, .fz, .fz]) (mc := [.fz, .fz, .fz, .fz, .fz, .fz, .fz]) F sc__law_refused rfl (by intro h; first | rfl | cases h) (fun cdv A0 outer s0 H E M hr S hc => ?_)
  have A := S.toAgr
  exact (ss_cons (m' := [.ow 1, .fz, .fz, .fz, .fz, .fz, .fz]) (sd_set (i := 0) A (pd_lst pa_nilD) rfl)
  (ss_cons (m' := [.ow 1, .fz, .fz, .fz, .fz, .fz, .fz]) (sd_for S (pi_seqD A (pd_tup (pa_consD (pd_tup (pa_consD pd_non (pa_consD pd_non pa_nilD))) (pa_consD (pd_tup (pa_consD (pd_tup pa_nilD) (pa_consD pd_non pa_nilD))) (pa_consD (pd_tup (pa_consD (pd_fz (pd_lst (pa_consD pd_int pa_nilD))) (pa_consD pd_non pa_nilD))) (pa_consD (pd_tup (pa_consD (pd_mul A (pd_tup (pa_consD pd_int pa_nilD)) pd_int) (pa_consD pd_non pa_nilD))) (pa_consD (pd_tup (pa_consD (pd_tup (pa_consD pd_int (pa_consD pd_non pa_nilD))) (pa_consD pd_int pa_nilD))) (pa_consD (pd_tup (pa_consD (pd_tup (pa_consD pd_int (pa_consD pd_int pa_nilD))) (pa_consD pd_int pa_nilD))) pa_nilD)))))))) (tg_tup A (tg_cons (tg_name (i := 1) A rfl) (tg_cons (tg_name (i := 2) A rfl) tg_nil))) (ss_cons (m' := [.ow 1, .fz, .fz, .fz, .fz, .fz, .fz]) (sd_for S (pi_seqD A (pd_tup (pa_consD (pd_gfn A rfl W.a_is_endless) (pa_consD (pd_gfn A rfl W.a_left_of) (pa_consD (pd_gfn A rfl W.a_endless_paper) (pa_consD (pd_gfn A rfl W.a_row_trace) (pa_consD (pd_lam W.t__law_refused (hc ("_law_refused", none) rfl) W.lm__law_refused W.lu__law_refused W.la_0) pa_nilD))))))) (tg_name (i := 3) A rfl) (ss_cons (m' := [.ow 1, .fz, .fz, .fz, .fz, .fz, .fz]) (sd_tryX (mh := [.ow 1, .fz, .fz, .fz, .fz, .fz, .fz]) (is := []) (i := 4) S W.x_BadRow rfl (by decide) rfl rfl (fun W2 pn xe S2 => (ss_cons (m' := [.ow 1, .fz, .fz, .fz, .fz, .fz, .fz]) (sd_expr (pd_callS S2.toAgr (tF_ok W) (tL_ok W) (hr.mono (by decide)) (i := 3) rfl rfl (pa_consD (pd_var (i := 1) rfl) pa_nilD)))
  (ss_nil []))) (fun a dd d oe pn A2 hz hf => (ss_cons (m' := [.ow 1, .fz, .fz, .fz, .fz, .fz, .fz]) (sd_app (i := 0) (n := 0) A2 rfl (pd_eq A2 (pd_err W.x_BadRow.rd W.x_BadRow.no hz hf (n := "error") (i := 4) rfl) (pd_var (i := 2) rfl)) rfl)
  (ss_nil []))))
  (ss_nil [])))
  (ss_cons (m' := [.ow 1, .fz, .fz, .fz, .fz, .fz, .fz]) (sd_tryX (mh := [.ow 1, .fz, .fz, .fz, .fz, .fz, .fz]) (is := []) (i := 4) S W.x_BadRow rfl (by decide) rfl rfl (fun W2 pn xe S2 => (ss_cons (m' := [.ow 1, .fz, .fz, .fz, .fz, .fz, .fz]) (sd_expr (pd_c S2.toAgr (ok_entry_between W) (hr.mono (by decide)) (pa_consD (pd_var (i := 1) rfl) (pa_consD pd_non (pa_consD pd_non pa_nilD)))))
  (ss_nil []))) (fun a dd d oe pn A2 hz hf => (ss_cons (m' := [.ow 1, .fz, .fz, .fz, .fz, .fz, .fz]) (sd_app (i := 0) (n := 0) A2 rfl (pd_eq A2 (pd_err W.x_BadRow.rd W.x_BadRow.no hz hf (n := "error") (i := 4) rfl) (pd_var (i := 2) rfl)) rfl)
  (ss_nil []))))
  (ss_nil []))))
  (ss_cons (m' := [.ow 1, .fz, .fz, .fz, .fz, .fz, .fz]) (sd_for S (pi_seqD A (pd_tup (pa_consD (pd_tup (pa_consD pd_int (pa_consD pd_non (pa_consD pd_int pa_nilD)))) (pa_consD (pd_tup (pa_consD (pd_neg pd_int) (pa_consD pd_non (pa_consD (pd_neg pd_int) pa_nilD)))) (pa_consD (pd_tup (pa_consD pd_bl (pa_consD pd_int (pa_consD pd_bl pa_nilD)))) (pa_consD (pd_tup (pa_consD pd_int (pa_consD pd_int (pa_consD pd_int pa_nilD)))) (pa_consD (pd_tup (pa_consD pd_int (pa_consD pd_int (pa_consD pd_int pa_nilD)))) (pa_consD (pd_tup (pa_consD pd_int (pa_consD pd_non (pa_consD pd_non pa_nilD)))) pa_nilD)))))))) (tg_tup A (tg_cons (tg_name (i := 5) A rfl) (tg_cons (tg_name (i := 6) A rfl) (tg_cons (tg_name (i := 1) A rfl) tg_nil)))) (ss_cons (m' := [.ow 1, .fz, .fz, .fz, .fz, .fz, .fz]) (sd_tryX (mh := [.ow 1, .fz, .fz, .fz, .fz, .fz, .fz]) (is := []) (i := 4) S W.x_BadNumber rfl (by decide) rfl rfl (fun W2 pn xe S2 => (ss_cons (m' := [.ow 1, .fz, .fz, .fz, .fz, .fz, .fz]) (sd_expr (pd_c S2.toAgr (ok_entry_between W) (hr.mono (by decide)) (pa_consD (pd_tup (pa_consD pd_int (pa_consD pd_int pa_nilD))) (pa_consD (pd_var (i := 5) rfl) (pa_consD (pd_var (i := 6) rfl) pa_nilD)))))
  (ss_nil []))) (fun a dd d oe pn A2 hz hf => (ss_cons (m' := [.ow 1, .fz, .fz, .fz, .fz, .fz, .fz]) (sd_app (i := 0) (n := 0) A2 rfl (pd_eq A2 (pd_repr A2 W.z_repr (pd_err W.x_BadNumber.rd W.x_BadNumber.no hz hf (n := "error") (i := 4) rfl)) (pd_repr A2 W.z_repr (pd_var (i := 1) rfl))) rfl)
  (ss_nil []))))
  (ss_nil [])))
  (ss_cons (m' := [.fz, .fz, .fz, .fz, .fz, .fz, .fz]) (sd_ret (pd_and (pd_eq A (pd_varB (i := 0) (n := 1) rfl) (pd_repL (pd_lst (pa_consD pd_bl pa_nilD)) pd_int)) (pd_one (pd_eq A (pd_c A (ok_entry_between W) (hr.mono (by decide)) (pa_consD (pd_tup (pa_consD pd_int pa_nilD)) (pa_consD pd_int (pa_consD pd_int pa_nilD)))) pd_int)))) ss_never))))
theorem ok__law_refused (W : Wd P w K mg base) : Cal P w K mg base 6 "_law_refused" [] (spF K mg (exT K fs) .fz f__law_refused) := by
  obtain ⟨fd, F⟩ := W.d__law_refused
  exact ⟨_, fd, W.a__law_refused, F.kp, g__law_refused W F, bindsN F (fun _ _ _ _ _ _ us hl => match us, hl with | [], _ => rfl)⟩
theorem sc__law_mixed : FnScope ["cell", "k", "number"] ["cell", "k"] (defScope s__law_mixed) := ⟨rfl, rfl, rfl, by decide +kernel, rfl, by decide +kernel, by decide +kernel⟩
theorem g__law_mixed (W : Wd P w K mg base) {fd : FuncData} (F : FunD K "_law_mixed" "_law_mixed" (defArgs s__law_mixed) (defBody s__law_mixed) (defScope s__law_mixed) [] [] (He.ga K "_law_mixed") fd) : FnG P w K mg base 1 (He.ga K "_law_mixed") fd ["cell", "k"] (spF K mg (exT K fs) .fz f__law_mixed) := by
  refine okF (k := 0) (b := false) (mn := [.fz, .fz, .fz]) (mb := [.fz, .fz, .fz]) (mc := [.fz, .fz, .fz]) F sc__law_mixed rfl (by intro h; first | rfl | cases h) (fun cdv A0 outer s0 H E M hr S hc => ?_)
  have A := S.toAgr
  exact (ss_cons (m' := [.fz, .fz, .fz]) (sd_set (i := 2) A (pd_add A (pd_add A (pd_mod (pd_var (i := 0) rfl) (pd_itemU A (pd_fz (pd_lst (pa_consD pd_int (pa_consD pd_int (pa_consD pd_int (pa_consD pd_int pa_nilD)))))) (pd_mod (pd_var (i := 1) rfl) pd_int))) (pd_mul A pd_int (pd_var (i := 1) rfl))) pd_int) rfl)
  (ss_cons (m' := [.fz, .fz, .fz]) (sd_ret (pd_mod (pd_mul A (pd_mod (pd_mul A (pd_var (i := 2) rfl) (pd_var (i := 2) rfl)) pd_int) pd_int) pd_int)) ss_never))
theorem ok__law_mixed (W : Wd P w K mg base) : Cal P w K mg base 1 "_law_mixed" ["cell", "k"] (spF K mg (exT K fs) .fz f__law_mixed) := by
  obtain ⟨fd, F⟩ := W.d__law_mixed
  exact ⟨_, fd, W.a__law_mixed, F.kp, g__law_mixed W F, bindsN F (fun _ _ _ _ _ _ us hl => match us, hl with | [_, _], _ => rfl)⟩
theorem sc__law_digit : FnScope ["state", "below", "j", "found"] ["state", "below"] (defScope s__law_digit) := ⟨rfl, rfl, rfl, by decide +kernel, rfl, by decide +kernel, by decide +kernel⟩
theorem g__law_digit (W : Wd P w K mg base) {fd : FuncData} (F : FunD K "_law_digit" "_law_digit" (defArgs s__law_digit) (defBody s__law_digit) (defScope s__law_digit) [] [] (He.ga K "_law_digit") fd) : FnG P w K mg base 2 (He.ga K "_law_digit") fd ["state", "below"] (spIO K mg 1 f__law_digit) := by
  refine okIO (ex := exT K fs) (k := 1) (b := false) (mn := [.ow 1, .fz, .fz, .fz]) (mb := [.ow 1, .fz, .fz, .fz]) (mc := [.ow 1, .fz, .fz, .fz]) F sc__law_digit (by intro h; first | rfl | cases h) (fun cdv A0 outer s0 H E M v0 hr S hc => ?_)
  have A := S.toAgr
  exact (ss_cons (m' := [.ow 1, .fz, .fz, .fz]) (sd_if (td_eq A (pd_getD A (pd_varB (i := 0) (n := 1) rfl) pd_str) pd_int) (ss_cons (m' := [.ow 1, .fz, .fz, .fz]) (sd_for S (pi_rng1D (pa_consD pd_int pa_nilD) W.z_range) (tg_name (i := 2) A rfl) (ss_cons (m' := [.ow 1, .fz, .fz, .fz]) (sd_putD (i := 0) A rfl (pd_add A (pd_getD A (pd_varB (i := 0) (n := 1) rfl) pd_str) pd_int) pd_str rfl)
  (ss_cons (m' := [.ow 1, .fz, .fz, .fz]) (sd_putD (i := 0) A rfl (pd_add A (pd_mul A (pd_getD A (pd_varB (i := 0) (n := 1) rfl) pd_str) pd_int) (pd_c A (ok__law_mixed W) (hr.mono (by decide)) (pa_consD (pd_getD A (pd_varB (i := 0) (n := 1) rfl) pd_str) (pa_consD (pd_getD A (pd_varB (i := 0) (n := 1) rfl) pd_str) pa_nilD)))) pd_str rfl)
  (ss_nil []))))
  (ss_nil [])) (ss_nil []))
  (ss_cons (m' := [.ow 1, .fz, .fz, .fz]) (sd_set (i := 3) A (pd_mod (pd_getD A (pd_varB (i := 0) (n := 1) rfl) pd_str) (pd_var (i := 1) rfl)) rfl)
  (ss_cons (m' := [.ow 1, .fz, .fz, .fz]) (sd_putD (i := 0) A rfl (pd_fdiv (pd_getD A (pd_varB (i := 0) (n := 1) rfl) pd_str) (pd_var (i := 1) rfl)) pd_str rfl)
  (ss_cons (m' := [.ow 1, .fz, .fz, .fz]) (sd_ret (pd_var (i := 3) rfl)) ss_never))))
theorem ok__law_digit (W : Wd P w K mg base) : Cal P w K mg base 2 "_law_digit" ["state", "below"] (spIO K mg 1 f__law_digit) := by
  obtain ⟨fd, F⟩ := W.d__law_digit
  exact ⟨_, fd, W.a__law_digit, F.kp, g__law_digit W F, bindsN F (fun _ _ _ _ _ _ us hl => match us, hl with | [_, _], _ => rfl)⟩
theorem sc__law_line : FnScope ["numbers", "one", "steps", "found", "step"] ["numbers", "one", "steps"] (defScope s__law_line) := ⟨rfl, rfl, rfl, by decide +kernel, rfl, by decide +kernel, by decide +kernel⟩
theorem g__law_line (W : Wd P w K mg base) {fd : FuncData} (F : FunD K "_law_line" "_law_line" (defArgs s__law_line) (defBody s__law_line) (defScope s__law_line) [] [] (He.ga K "_law_line") fd) : FnG P w K mg base 1 (He.ga K "_law_line") fd ["numbers", "one", "steps"] (spF K mg (exT K fs) .fz f__law_line) := by
  refine okF (k := 0) (b := false) (mn := [.fz, .fz, .fz, .fz, .fz]) (mb := [.fz, .fz, .fz, .fz, .fz]) (mc := [.fz, .fz, .fz, .fz, .fz]) F sc__law_line rfl (by intro h; first | rfl | cases h) (fun cdv A0 outer s0 H E M hr S hc => ?_)
  have A := S.toAgr
  exact (ss_cons (m' := [.fz, .fz, .fz, .ow 1, .fz]) (sd_set (i := 3) A (pd_lst (pa_consD pd_int (pa_consD pd_int pa_nilD))) rfl)
  (ss_cons (m' := [.fz, .fz, .fz, .ow 1, .fz]) (sd_for S (pi_rng2D (pa_consD pd_int (pa_consD (pd_var (i := 2) rfl) pa_nilD)) W.z_range) (tg_name (i := 4) A rfl) (ss_cons (m' := [.fz, .fz, .fz, .ow 1, .fz]) (sd_app (i := 3) (n := 0) A rfl (pd_sub (pd_mul A (pd_itemU A (pd_var (i := 0) rfl) (pd_mod (pd_add A (pd_var (i := 1) rfl) (pd_var (i := 4) rfl)) (pd_b1 (f_len) call_lenA (by rfl) W.z_len (pd_var (i := 0) rfl)))) (pd_b0 (pd_itemB (n := 0) A (pd_varB (i := 3) (n := 1) rfl) (pd_var (i := 4) rfl)))) (pd_b0 (pd_itemB (n := 0) A (pd_varB (i := 3) (n := 1) rfl) (pd_sub (pd_var (i := 4) rfl) pd_int)))) rfl)
  (ss_nil [])))
  (ss_cons (m' := [.fz, .fz, .fz, .fz, .fz]) (sd_ret (pd_sli A (pd_varB (i := 3) (n := 1) rfl) po_noD (po_someD (pd_add A (pd_var (i := 2) rfl) pd_int)))) ss_never)))
theorem ok__law_line (W : Wd P w K mg base) : Cal P w K mg base 1 "_law_line" ["numbers", "one", "steps"] (spF K mg (exT K fs) .fz f__law_line) := by
  obtain ⟨fd, F⟩ := W.d__law_line
  exact ⟨_, fd, W.a__law_line, F.kp, g__law_line W F, bindsN F (fun _ _ _ _ _ _ us hl => match us, hl with | [_, _, _], _ => rfl)⟩
theorem sc__law_without : FnScope ["row", "place", "found"] ["row", "place"] (defScope s__law_without) := ⟨rfl, rfl, rfl, by decide +kernel, rfl, by decide +kernel, by decide +kernel⟩
theorem g__law_without (W : Wd P w K mg base) {fd : FuncData} (F : FunD K "_law_without" "_law_without" (defArgs s__law_without) (defBody s__law_without) (defScope s__law_without) [] [] (He.ga K "_law_without") fd) : FnG P w K mg base 1 (He.ga K "_law_without") fd ["row", "place"] (spF K mg (exT K fs) .fz f__law_without) := by
  refine okF (k := 0) (b := false) (mn := [.fz, .fz, .fz]) (mb := [.fz, .fz, .fz]) (mc := [.fz, .fz, .fz]) F sc__law_without rfl (by intro h; first | rfl | cases h) (fun cdv A0 outer s0 H E M hr S hc => ?_)
  have A := S.toAgr
  exact (ss_cons (m' := [.fz, .fz, .ow 1]) (sd_set (i := 2) A (pd_t1 (f_list) call_list_of (by rfl) W.z_list (pd_var (i := 0) rfl)) rfl)
  (ss_cons (m' := [.fz, .fz, .ow 1]) (sd_setL (i := 2) (n := 0) A rfl (pd_sub (pd_b0 (pd_itemB (n := 0) A (pd_varB (i := 2) (n := 1) rfl) (pd_sub (pd_var (i := 1) rfl) pd_int))) pd_int) (fun F => (pd_sub (pd_var (i := 1) rfl) pd_int)) rfl)
  (ss_cons (m' := [.fz, .fz, .ow 1]) (sd_setL (i := 2) (n := 0) A rfl (pd_sub (pd_b0 (pd_itemB (n := 0) A (pd_varB (i := 2) (n := 1) rfl) (pd_mod (pd_add A (pd_var (i := 1) rfl) pd_int) (pd_b1 (f_len) call_lenA (by rfl) W.z_len (pd_varB (i := 2) (n := 1) rfl))))) pd_int) (fun F => (pd_mod (pd_add (Agr.plus A) (pd_var (i := 1) rfl) pd_int) (pd_b1 (f_len) call_lenA (by rfl) W.z_len (pd_varB (i := 2) (n := 1) rfl)))) rfl)
  (ss_cons (m' := [.fz, .fz, .fz]) (sd_ret (pd_add A (pd_sli A (pd_varB (i := 2) (n := 1) rfl) po_noD (po_someD (pd_var (i := 1) rfl))) (pd_sli A (pd_varB (i := 2) (n := 1) rfl) (po_someD (pd_add A (pd_var (i := 1) rfl) pd_int)) po_noD))) ss_never))))
theorem ok__law_without (W : Wd P w K mg base) : Cal P w K mg base 1 "_law_without" ["row", "place"] (spF K mg (exT K fs) .fz f__law_without) := by
  obtain ⟨fd, F⟩ := W.d__law_without
  exact ⟨_, fd, W.a__law_without, F.kp, g__law_without W F, bindsN F (fun _ _ _ _ _ _ us hl => match us, hl with | [_, _], _ => rfl)⟩
theorem sc__law_due : FnScope ["numbers", "paper", "size", "part", "row", "at", "place"] ["numbers", "paper"] (defScope s__law_due) := ⟨rfl, rfl, rfl, by decide +kernel, rfl, by decide +kernel, by decide +kernel⟩
theorem g__law_due (W : Wd P w K mg base) {fd : FuncData} (F : FunD K "_law_due" "_law_due" (defArgs s__law_due) (defBody s__law_due) (defScope s__law_due) [] [] (He.ga K "_law_due") fd) : FnG P w K mg base 2 (He.ga K "_law_due") fd ["numbers", "paper"] (spF K mg (exT K fs) .fz f__law_due) := by
  refine okF (k := 1) (b := false) (mn := [.fz, .fz, .fz, .fz, .fz, .fz, .fz]) (mb := [.fz, .fz, .fz, .fz, .fz, .fz, .fz]) (mc := [.fz, .fz, .fz, .fz, .fz, .fz, .fz]) F sc__law_due rfl (by intro h; first | rfl | cases h) (fun cdv A0 outer s0 H E M hr S hc => ?_)
  have A := S.toAgr
  exact (ss_cons (m' := [.fz, .fz, .fz, .fz, .fz, .fz, .fz]) (sd_set (i := 2) A (pd_b1 (f_len) call_lenA (by rfl) W.z_len (pd_var (i := 0) rfl)) rfl)
  (ss_cons (m' := [.fz, .fz, .fz, .fz, .fz, .fz, .fz]) (sd_if (PW.pt (tw_or (td_not (td_val A (pd_isi (T := "tuple") A (by decide) (by rfl) W.z_isinstance W.z_tuple (pd_var (i := 1) rfl)))) (tw_or (td_notIn A (pd_b1 (f_len) call_lenA (by rfl) W.z_len (pd_var (i := 1) rfl)) (pd_tup (pa_consD pd_int (pa_consD pd_int pa_nilD)))) (tw_or1 (td_not (td_val A (pd_isi (T := "str") A (by decide) (by rfl) W.z_isinstance W.z_str (pd_itemU A (pd_var (i := 1) rfl) pd_int)))))))) (ss_cons (m' := [.fz, .fz, .fz, .fz, .fz, .fz, .fz]) (sd_ret (pd_fz (pd_lst (pa_consD pd_non pa_nilD)))) ss_never) (ss_nil []))
  (ss_cons (m' := [.fz, .fz, .fz, .fz, .fz, .fz, .fz]) (sd_if (td_notIn A (pd_tup (pa_consD (pd_itemU A (pd_var (i := 1) rfl) pd_int) (pa_consD (pd_b1 (f_len) call_lenA (by rfl) W.z_len (pd_var (i := 1) rfl)) pa_nilD))) (pd_tup (pa_consD (pd_tup (pa_consD pd_str (pa_consD pd_int pa_nilD))) (pa_consD (pd_tup (pa_consD pd_str (pa_consD pd_int pa_nilD))) pa_nilD)))) (ss_cons (m' := [.fz, .fz, .fz, .fz, .fz, .fz, .fz]) (sd_ret (pd_fz (pd_lst (pa_consD pd_non pa_nilD)))) ss_never) (ss_nil []))
  (ss_cons (m' := [.fz, .fz, .fz, .fz, .fz, .fz, .fz]) (sd_if (td_eq A (pd_itemU A (pd_var (i := 1) rfl) pd_int) pd_str) (ss_cons (m' := [.fz, .fz, .fz, .fz, .fz, .fz, .fz]) (sd_if (td_ne A (pd_lc A (pi_seqD A (pd_sli A (pd_var (i := 1) rfl) (po_someD pd_int) po_noD)) (blkOk_by (own := [("part", 3)]) (by rfl)) (fun s H Cc cl fp F => (tg_name (i := 3) (Agr.blk A) rfl)) (fun s H Cc cl fp F => (ts_one (PW.pt (tw_or (td_not (td_val (Agr.blk A) (pd_isi (T := "int") (Agr.blk A) (by decide) (by rfl) W.z_isinstance W.z_int (pd_var (i := 3) rfl)))) (tw_or1 (td_val (Agr.blk A) (pd_isi (T := "bool") (Agr.blk A) (by decide) (by rfl) W.z_isinstance W.z_bool (pd_var (i := 3) rfl)))))))) (fun s H Cc cl fp F => (pd_var (i := 3) rfl))) (pd_lst pa_nilD)) (ss_cons (m' := [.fz, .fz, .fz, .fz, .fz, .fz, .fz]) (sd_ret (pd_fz (pd_lst (pa_consD pd_str pa_nilD)))) ss_never) (ss_nil []))
  (ss_cons (m' := [.fz, .fz, .fz, .fz, .fz, .fz, .fz]) (sd_if (PW.pt (tw_or (td_not (td_chn o_le op_le o_lt op_lt pd_int (pd_itemU A (pd_var (i := 1) rfl) pd_int) (pd_var (i := 2) rfl))) (tw_or1 (td_not (td_chn o_le op_le o_le op_le (pd_add A (pd_itemU A (pd_var (i := 1) rfl) pd_int) pd_int) (pd_itemU A (pd_var (i := 1) rfl) pd_int) (pd_add A (pd_itemU A (pd_var (i := 1) rfl) pd_int) (pd_mul A pd_int (pd_var (i := 2) rfl)))))))) (ss_cons (m' := [.fz, .fz, .fz, .fz, .fz, .fz, .fz]) (sd_ret (pd_fz (pd_lst (pa_consD pd_str pa_nilD)))) ss_never) (ss_nil []))
  (ss_cons (m' := [.fz, .fz, .fz, .fz, .fz, .fz, .fz]) (sd_ret (pd_ifE (td_lt (pd_itemU A (pd_c A (ok__law_line W) (hr.mono (by decide)) (pa_consD (pd_var (i := 0) rfl) (pa_consD (pd_itemU A (pd_var (i := 1) rfl) pd_int) (pa_consD (pd_sub (pd_itemU A (pd_var (i := 1) rfl) pd_int) (pd_itemU A (pd_var (i := 1) rfl) pd_int)) pa_nilD)))) (pd_neg pd_int)) pd_int) pd_str (pd_fz (pd_lst (pa_consD pd_str pa_nilD))))) ss_never))) (ss_nil []))
  (ss_cons (m' := [.fz, .fz, .fz, .fz, .fz, .fz, .fz]) (sd_if (td_not (td_val A (pd_isi (T := "tuple") A (by decide) (by rfl) W.z_isinstance W.z_tuple (pd_itemU A (pd_var (i := 1) rfl) pd_int)))) (ss_cons (m' := [.fz, .fz, .fz, .fz, .fz, .fz, .fz]) (sd_ret (pd_fz (pd_lst (pa_consD pd_str pa_nilD)))) ss_never) (ss_nil []))
  (ss_cons (m' := [.fz, .fz, .fz, .fz, .fz, .fz, .fz]) (sd_set (i := 4) A (pd_fz (pd_t1 (f_list) call_list_of (by rfl) W.z_list (pd_var (i := 0) rfl))) rfl)
  (ss_cons (m' := [.fz, .fz, .fz, .fz, .fz, .fz, .fz]) (sd_for S (pi_enumU A (pa_consD (pd_itemU A (pd_var (i := 1) rfl) pd_int) pa_nilD) W.z_enumerate) (tg_tup A (tg_cons (tg_name (i := 5) A rfl) (tg_cons (tg_name (i := 6) A rfl) tg_nil))) (ss_cons (m' := [.fz, .fz, .fz, .fz, .fz, .fz, .fz]) (sd_if (PW.pt (tw_or (td_not (td_val A (pd_isi (T := "int") A (by decide) (by rfl) W.z_isinstance W.z_int (pd_var (i := 6) rfl)))) (tw_or (td_val A (pd_isi (T := "bool") A (by decide) (by rfl) W.z_isinstance W.z_bool (pd_var (i := 6) rfl))) (tw_or (td_not (td_chn o_le op_le o_lt op_lt pd_int (pd_var (i := 6) rfl) (pd_b1 (f_len) call_lenA (by rfl) W.z_len (pd_var (i := 4) rfl)))) (tw_or1 (td_eq A (pd_b1 (f_len) call_lenA (by rfl) W.z_len (pd_var (i := 4) rfl)) pd_int)))))) (ss_cons (m' := [.fz, .fz, .fz, .fz, .fz, .fz, .fz]) (sd_ret (pd_fz (pd_lst (pa_consD (pd_var (i := 5) rfl) pa_nilD)))) ss_never) (ss_nil []))
  (ss_cons (m' := [.fz, .fz, .fz, .fz, .fz, .fz, .fz]) (sd_if (td_ne A (pd_itemU A (pd_var (i := 4) rfl) (pd_var (i := 6) rfl)) pd_int) (ss_cons (m' := [.fz, .fz, .fz, .fz, .fz, .fz, .fz]) (sd_ret (pd_fz (pd_lst (pa_consD (pd_var (i := 5) rfl) pa_nilD)))) ss_never) (ss_nil []))
  (ss_cons (m' := [.fz, .fz, .fz, .fz, .fz, .fz, .fz]) (sd_set (i := 4) A (pd_c A (ok__law_without W) (hr.mono (by decide)) (pa_consD (pd_var (i := 4) rfl) (pa_consD (pd_var (i := 6) rfl) pa_nilD))) rfl)
  (ss_nil [])))))
  (ss_cons (m' := [.fz, .fz, .fz, .fz, .fz, .fz, .fz]) (sd_ret (pd_ifE (td_gt (pd_b1 (f_min) (cr_min rfl) (by rfl) W.z_min (pd_var (i := 4) rfl)) pd_int) pd_str (pd_fz (pd_lst (pa_consD pd_str pa_nilD))))) ss_never))))))))
theorem ok__law_due (W : Wd P w K mg base) : Cal P w K mg base 2 "_law_due" ["numbers", "paper"] (spF K mg (exT K fs) .fz f__law_due) := by
  obtain ⟨fd, F⟩ := W.d__law_due
  exact ⟨_, fd, W.a__law_due, F.kp, g__law_due W F, bindsN F (fun _ _ _ _ _ _ us hl => match us, hl with | [_, _], _ => rfl)⟩
theorem sc__law_left : FnScope ["numbers", "row", "turn"] ["numbers"] (defScope s__law_left) := ⟨rfl, rfl, rfl, by decide +kernel, rfl, by decide +kernel, by decide +kernel⟩
theorem g__law_left (W : Wd P w K mg base) {fd : FuncData} (F : FunD K "_law_left" "_law_left" (defArgs s__law_left) (defBody s__law_left) (defScope s__law_left) [] [] (He.ga K "_law_left") fd) : FnG P w K mg base 2 (He.ga K "_law_left") fd ["numbers"] (spF K mg (exT K fs) .fz f__law_left) := by
  refine okF (k := 1) (b := false) (mn := [.fz, .fz, .fz]) (mb := [.fz, .fz, .fz]) (mc := [.fz, .fz, .fz]) F sc__law_left rfl (by intro h; first | rfl | cases h) (fun cdv A0 outer s0 H E M hr S hc => ?_)
  have A := S.toAgr
  exact (ss_cons (m' := [.fz, .fz, .fz]) (sd_set (i := 1) A (pd_fz (pd_t1 (f_list) call_list_of (by rfl) W.z_list (pd_var (i := 0) rfl))) rfl)
  (ss_cons (m' := [.fz, .fz, .fz]) (sd_for S (pi_rng1D (pa_consD (pd_b1 (f_len) call_lenA (by rfl) W.z_len (pd_var (i := 0) rfl)) pa_nilD) W.z_range) (tg_name (i := 2) A rfl) (ss_cons (m' := [.fz, .fz, .fz]) (sd_if (PW.pt (tw_and (td_eq A (pd_b1 (f_min) (cr_min rfl) (by rfl) W.z_min (pd_var (i := 1) rfl)) pd_int) (tw_and1 (td_gt (pd_b1 (f_len) call_lenA (by rfl) W.z_len (pd_var (i := 1) rfl)) pd_int)))) (ss_cons (m' := [.fz, .fz, .fz]) (sd_set (i := 1) A (pd_c A (ok__law_without W) (hr.mono (by decide)) (pa_consD (pd_var (i := 1) rfl) (pa_consD (pd_index A (pd_var (i := 1) rfl) pd_int) pa_nilD))) rfl)
  (ss_nil [])) (ss_nil []))
  (ss_nil [])))
  (ss_cons (m' := [.fz, .fz, .fz]) (sd_ret (pd_var (i := 1) rfl)) ss_never)))
theorem ok__law_left (W : Wd P w K mg base) : Cal P w K mg base 2 "_law_left" ["numbers"] (spF K mg (exT K fs) .fz f__law_left) := by
  obtain ⟨fd, F⟩ := W.d__law_left
  exact ⟨_, fd, W.a__law_left, F.kp, g__law_left W F, bindsN F (fun _ _ _ _ _ _ us hl => match us, hl with | [_], _ => rfl)⟩
theorem sc__law_papers : FnScope ["state", "numbers", "paper", "size", "one", "other", "found", "at", "odd"] ["state", "numbers", "paper"] (defScope s__law_papers) := ⟨rfl, rfl, rfl, by decide +kernel, rfl, by decide +kernel, by decide +kernel⟩
theorem g__law_papers (W : Wd P w K mg base) {fd : FuncData} (F : FunD K "_law_papers" "_law_papers" (defArgs s__law_papers) (defBody s__law_papers) (defScope s__law_papers) [] [] (He.ga K "_law_papers") fd) : FnG P w K mg base 3 (He.ga K "_law_papers") fd ["state", "numbers", "paper"] (spIO K mg 1 f__law_papers) := by
  refine okIO (ex := exT K fs) (k := 2) (b := false) (mn := [.ow 1, .fz, .fz, .fz, .fz, .fz, .fz, .fz, .fz]) (mb := [.ow 1, .fz, .fz, .fz, .fz, .fz, .fz, .fz, .fz]) (mc := [.ow 1, .fz, .fz, .fz, .fz, .fz, .fz, .fz, .fz]) F sc__law_papers (by intro h; first | rfl | cases h) (fun cdv A0 outer s0 H E M v0 hr S hc => ?_)
  have A := S.toAgr
  exact (ss_cons (m' := [.ow 1, .fz, .fz, .fz, .fz, .fz, .fz, .fz, .fz]) (sd_set (i := 3) A (pd_b1 (f_len) call_lenA (by rfl) W.z_len (pd_var (i := 1) rfl)) rfl)
  (ss_cons (m' := [.ow 1, .fz, .fz, .fz, .fz, .fz, .fz, .fz, .fz]) (sd_par (i := 4) (j := 5) A (show PA _ _ (tAK _ _ _ [.fz, .fz] _) from (pk_cons (pd_cIO A (ok__law_digit W) (hr.mono (by decide)) (i := 0) rfl rfl (pa_consD (pd_var (i := 3) rfl) pa_nilD)) (fun F0 => (pk_cons (pd_cIO (Agr.plus A) (ok__law_digit W) (hr.mono (by decide)) (i := 0) rfl rfl (pa_consD (pd_mul (Agr.plus A) pd_int (pd_var (i := 3) rfl)) pa_nilD)) (fun F1 => pk_nil))))) rfl rfl)
  (ss_cons (m' := [.ow 1, .fz, .fz, .fz, .fz, .fz, .ow 1, .fz, .fz]) (sd_set (i := 6) A (pd_lst (pa_consD pd_non (pa_consD (pd_tup pa_nilD) (pa_consD (pd_fz (pd_t1 (f_list) call_list_of (by rfl) W.z_list (pd_var (i := 2) rfl))) (pa_consD (pd_add A (pd_var (i := 2) rfl) (pd_tup (pa_consD pd_int pa_nilD))) (pa_consD (pd_sli A (pd_var (i := 2) rfl) po_noD (po_someD pd_int)) (pa_consD (pd_add A (pd_tup (pa_consD pd_non pa_nilD)) (pd_sli A (pd_var (i := 2) rfl) (po_someD pd_int) po_noD)) (pa_consD (pd_add A (pd_tup (pa_consD (pd_fz (pd_lst pa_nilD)) pa_nilD)) (pd_sli A (pd_var (i := 2) rfl) (po_someD pd_int) po_noD)) (pa_consD (pd_tup (pa_consD pd_str (pa_consD (pd_tup pa_nilD) pa_nilD))) pa_nilD))))))))) rfl)
  (ss_cons (m' := [.ow 1, .fz, .fz, .fz, .fz, .fz, .ow 1, .fz, .fz]) (sd_set (i := 6) A (pd_catL (pd_varB (i := 6) (n := 1) rfl) (pd_lst (pa_consD (pd_tup (pa_consD pd_str (pa_consD (pd_var (i := 4) rfl) (pa_consD (pd_add A (pd_add A (pd_var (i := 4) rfl) pd_int) (pd_var (i := 5) rfl)) pa_nilD)))) (pa_consD (pd_tup (pa_consD pd_str (pa_consD (pd_var (i := 4) rfl) (pa_consD (pd_add A (pd_var (i := 4) rfl) pd_int) pa_nilD)))) (pa_consD (pd_tup (pa_consD pd_str (pa_consD (pd_neg pd_int) (pa_consD pd_int pa_nilD)))) (pa_consD (pd_tup (pa_consD pd_str (pa_consD (pd_var (i := 3) rfl) (pa_consD (pd_add A (pd_var (i := 3) rfl) pd_int) pa_nilD)))) pa_nilD)))))) rfl)
  (ss_cons (m' := [.ow 1, .fz, .fz, .fz, .fz, .fz, .ow 1, .fz, .fz]) (sd_set (i := 6) A (pd_catL (pd_varB (i := 6) (n := 1) rfl) (pd_lst (pa_consD (pd_tup (pa_consD pd_str (pa_consD (pd_var (i := 4) rfl) (pa_consD (pd_add A (pd_var (i := 4) rfl) (pd_mul A pd_int (pd_var (i := 3) rfl))) pa_nilD)))) (pa_consD (pd_tup (pa_consD pd_str (pa_consD (pd_var (i := 4) rfl) (pa_consD (pd_add A (pd_add A (pd_var (i := 4) rfl) (pd_mul A pd_int (pd_var (i := 3) rfl))) pd_int) pa_nilD)))) (pa_consD (pd_tup (pa_consD pd_str (pa_consD pd_bl (pa_consD pd_int pa_nilD)))) (pa_consD pd_str pa_nilD)))))) rfl)
  (ss_cons (m' := [.ow 1, .fz, .fz, .fz, .fz, .fz, .ow 1, .fz, .fz]) (sd_set (i := 6) A (pd_catL (pd_varB (i := 6) (n := 1) rfl) (pd_lst (pa_consD (pd_tup (pa_consD pd_str (pa_consD (pd_tup pa_nilD) pa_nilD))) (pa_consD (pd_tup (pa_consD pd_str (pa_consD (pd_tup (pa_consD (pd_var (i := 4) rfl) pa_nilD)) pa_nilD))) (pa_consD (pd_tup (pa_consD pd_str (pa_consD (pd_fz (pd_lst (pa_consD (pd_var (i := 4) rfl) pa_nilD))) pa_nilD))) (pa_consD (pd_tup (pa_consD pd_str (pa_consD (pd_tup (pa_consD (pd_var (i := 3) rfl) pa_nilD)) pa_nilD))) (pa_consD (pd_tup (pa_consD pd_str (pa_consD pd_int (pa_consD pd_non pa_nilD)))) pa_nilD))))))) rfl)
  (ss_cons (m' := [.ow 1, .fz, .fz, .fz, .fz, .fz, .ow 1, .fz, .fz]) (sd_app (i := 6) (n := 0) A rfl (pd_tup (pa_consD pd_str (pa_consD (pd_tup (pa_consD pd_bl pa_nilD)) pa_nilD))) rfl)
  (ss_cons (m' := [.ow 1, .fz, .fz, .fz, .fz, .fz, .ow 1, .fz, .fz]) (sd_if (td_eq A (pd_itemU A (pd_var (i := 2) rfl) pd_int) pd_str) (ss_cons (m' := [.ow 1, .fz, .fz, .fz, .fz, .fz, .ow 1, .fz, .fz]) (sd_set (i := 7) A (pd_cIO A (ok__law_digit W) (hr.mono (by decide)) (i := 0) rfl rfl (pa_consD (pd_add A (pd_b1 (f_len) call_lenA (by rfl) W.z_len (pd_itemU A (pd_var (i := 2) rfl) pd_int)) pd_int) pa_nilD)) rfl)
  (ss_cons (m' := [.ow 1, .fz, .fz, .fz, .fz, .fz, .ow 1, .fz, .fz]) (sd_for S (pi_seqD A (pd_tup (pa_consD (pd_var (i := 4) rfl) (pa_consD pd_non (pa_consD (pd_neg pd_int) pa_nilD))))) (tg_name (i := 8) A rfl) (ss_cons (m' := [.ow 1, .fz, .fz, .fz, .fz, .fz, .ow 1, .fz, .fz]) (sd_app (i := 6) (n := 0) A rfl (pd_tup (pa_consD pd_str (pa_consD (pd_add A (pd_add A (pd_sli A (pd_itemU A (pd_var (i := 2) rfl) pd_int) po_noD (po_someD (pd_var (i := 7) rfl))) (pd_tup (pa_consD (pd_var (i := 8) rfl) pa_nilD))) (pd_sli A (pd_itemU A (pd_var (i := 2) rfl) pd_int) (po_someD (pd_var (i := 7) rfl)) po_noD)) pa_nilD))) rfl)
  (ss_nil [])))
  (ss_cons (m' := [.ow 1, .fz, .fz, .fz, .fz, .fz, .ow 1, .fz, .fz]) (sd_set (i := 6) A (pd_catL (pd_varB (i := 6) (n := 1) rfl) (pd_lst (pa_consD (pd_tup (pa_consD pd_str (pa_consD (pd_sli A (pd_itemU A (pd_var (i := 2) rfl) pd_int) (po_someD pd_int) po_noD) pa_nilD))) (pa_consD (pd_tup (pa_consD pd_str (pa_consD (pd_rev A (pd_itemU A (pd_var (i := 2) rfl) pd_int)) pa_nilD))) (pa_consD (pd_tup (pa_consD pd_str (pa_consD (pd_add A (pd_itemU A (pd_var (i := 2) rfl) pd_int) (pd_mul A (pd_tup (pa_consD pd_int pa_nilD)) pd_int)) pa_nilD))) pa_nilD))))) rfl)
  (ss_nil [])))) (ss_nil []))
  (ss_conv (m' := [.ow 1, .fz, .fz, .fz, .fz, .fz, .fz, .fz, .fz]) [] (ss_cons (m' := [.ow 1, .fz, .fz, .fz, .fz, .fz, .fz, .fz, .fz]) (sd_ret (pd_var (i := 6) rfl)) ss_never))))))))))
theorem ok__law_papers (W : Wd P w K mg base) : Cal P w K mg base 3 "_law_papers" ["state", "numbers", "paper"] (spIO K mg 1 f__law_papers) := by
  obtain ⟨fd, F⟩ := W.d__law_papers
  exact ⟨_, fd, W.a__law_papers, F.kp, g__law_papers W F, bindsN F (fun _ _ _ _ _ _ us hl => match us, hl with | [_, _, _], _ => rfl)⟩
theorem sc__law_told : FnScope ["numbers", "paper", "found", "error"] ["numbers", "paper"] (defScope s__law_told) := ⟨rfl, rfl, rfl, by decide +kernel, rfl, by decide +kernel, by decide +kernel⟩
theorem g__law_told (W : Wd P w K mg base) {fd : FuncData} (F : FunD K "_law_told" "_law_told" (defArgs s__law_told) (defBody s__law_told) (defScope s__law_told) [] [] (He.ga K "_law_told") fd) : FnG P w K mg base 5 (He.ga K "_law_told") fd ["numbers", "paper"] (spF K mg (exT K fs) .fz f__law_told) := by
  refine okF (k := 4) (b := false) (mn := [.fz, .fz, .fz, .fz]) (mb := [.fz, .fz, .fz, .fz]) (mc := [.fz, .fz, .fz, .fz]) F sc__law_told rfl (by intro h; first | rfl | cases h) (fun cdv A0 outer s0 H E M hr S hc => ?_)
  have A := S.toAgr
  exact (ss_cons (m' := [.fz, .fz, .fz, .fz]) (sd_set (i := 2) A pd_non rfl)
  (ss_cons (m' := [.fz, .fz, .fz, .fz]) (sd_tryX (mh := [.fz, .fz, .fz, .fz]) (is := []) (i := 3) S W.x_BadPaper rfl (by decide) rfl rfl (fun W2 pn xe S2 => (ss_cons (m' := [.fz, .fz, .fz, .fz]) (sd_set (i := 2) S2.toAgr (pd_c S2.toAgr (ok_check_endless W) (hr.mono (by decide)) (pa_consD (pd_var (i := 0) rfl) (pa_consD (pd_var (i := 1) rfl) pa_nilD))) rfl)
  (ss_nil []))) (fun a dd d oe pn A2 hz hf => (ss_cons (m' := [.fz, .fz, .fz, .fz]) (sd_set (i := 2) A2 (pd_fz (pd_lst (pa_consD (pd_err W.x_BadPaper.rd W.x_BadPaper.no hz hf (n := "error") (i := 3) rfl) pa_nilD))) rfl)
  (ss_nil []))))
  (ss_cons (m' := [.fz, .fz, .fz, .fz]) (sd_ret (pd_var (i := 2) rfl)) ss_never)))
theorem ok__law_told (W : Wd P w K mg base) : Cal P w K mg base 5 "_law_told" ["numbers", "paper"] (spF K mg (exT K fs) .fz f__law_told) := by
  obtain ⟨fd, F⟩ := W.d__law_told
  exact ⟨_, fd, W.a__law_told, F.kp, g__law_told W F, bindsN F (fun _ _ _ _ _ _ us hl => match us, hl with | [_, _], _ => rfl)⟩
theorem sc__law_trace : FnScope ["numbers", "a", "b", "c", "d", "part"] ["numbers"] (defScope s__law_trace) := ⟨rfl, rfl, rfl, by decide +kernel, rfl, by decide +kernel, by decide +kernel⟩
theorem g__law_trace (W : Wd P w K mg base) {fd : FuncData} (F : FunD K "_law_trace" "_law_trace" (defArgs s__law_trace) (defBody s__law_trace) (defScope s__law_trace) [] [] (He.ga K "_law_trace") fd) : FnG P w K mg base 1 (He.ga K "_law_trace") fd ["numbers"] (spF K mg (exT K fs) .fz f__law_trace) := by
  refine okF (k := 0) (b := false) (mn := [.fz, .fz, .fz, .fz, .fz, .fz]) (mb := [.fz, .fz, .fz, .fz, .fz, .fz]) (mc := [.fz, .fz, .fz, .fz, .fz, .fz]) F sc__law_trace rfl (by intro h; first | rfl | cases h) (fun cdv A0 outer s0 H E M hr S hc => ?_)
  have A := S.toAgr
  exact (ss_cons (m' := [.fz, .fz, .fz, .fz, .fz, .fz]) (sd_parT A (show PA _ _ (tAK _ _ _ [.fz, .fz, .fz, .fz] _) from (pk_cons pd_int (fun F0 => (pk_cons pd_int (fun F1 => (pk_cons pd_int (fun F2 => (pk_cons pd_int (fun F3 => pk_nil))))))))) (gn_cons A (i := 1) rfl (gn_cons A (i := 2) rfl (gn_cons A (i := 3) rfl (gn_cons A (i := 4) rfl gn_nil)))))
  (ss_cons (m' := [.fz, .fz, .fz, .fz, .fz, .fz]) (sd_for S (pi_seqD A (pd_var (i := 0) rfl)) (tg_name (i := 5) A rfl) (ss_cons (m' := [.fz, .fz, .fz, .fz, .fz, .fz]) (sd_parT A (show PA _ _ (tAK _ _ _ [.fz, .fz, .fz, .fz] _) from (pk_cons (pd_add A (pd_mul A (pd_var (i := 1) rfl) (pd_var (i := 5) rfl)) (pd_var (i := 2) rfl)) (fun F0 => (pk_cons (pd_sub pd_int (pd_var (i := 1) rfl)) (fun F1 => (pk_cons (pd_add (Agr.plus (Agr.plus A)) (pd_mul (Agr.plus (Agr.plus A)) (pd_var (i := 3) rfl) (pd_var (i := 5) rfl)) (pd_var (i := 4) rfl)) (fun F2 => (pk_cons (pd_sub pd_int (pd_var (i := 3) rfl)) (fun F3 => pk_nil))))))))) (gn_cons A (i := 1) rfl (gn_cons A (i := 2) rfl (gn_cons A (i := 3) rfl (gn_cons A (i := 4) rfl gn_nil)))))
  (ss_nil [])))
  (ss_cons (m' := [.fz, .fz, .fz, .fz, .fz, .fz]) (sd_ret (pd_add A (pd_var (i := 1) rfl) (pd_var (i := 4) rfl))) ss_never)))
theorem ok__law_trace (W : Wd P w K mg base) : Cal P w K mg base 1 "_law_trace" ["numbers"] (spF K mg (exT K fs) .fz f__law_trace) := by
  obtain ⟨fd, F⟩ := W.d__law_trace
  exact ⟨_, fd, W.a__law_trace, F.kp, g__law_trace W F, bindsN F (fun _ _ _ _ _ _ us hl => match us, hl with | [_], _ => rfl)⟩
theorem sc__law_right : FnScope ["state", "numbers", "size", "left", "low", "one", "due", "trace", "paper", "word", "some", "far", "told"] ["state", "numbers"] (defScope s__law_right) := ⟨rfl, rfl, rfl, by decide +kernel, rfl, by decide +kernel, by decide +kernel⟩
theorem g__law_right (W : Wd P w K mg base) {fd : FuncData} (F : FunD K "_law_right" "_law_right" (defArgs s__law_right) (defBody s__law_right) (defScope s__law_right) [] [] (He.ga K "_law_right") fd) : FnG P w K mg base 6 (He.ga K "_law_right") fd ["state", "numbers"] (spIO K mg 1 f__law_right) := by
  refine okIO (ex := exT K fs) (k := 5) (b := false) (mn := [.ow 1, .fz, .fz, .fz, .fz, .fz, .fz, .fz, .fz, .fz, .fz, .fz, .fz]) (mb := [.ow 1, .fz, .fz, .fz, .fz, .fz, .fz, .fz, .fz, .fz, .fz, .fz, .fz]) (mc := [.ow 1, .fz, .fz, .fz, .fz, .fz, .fz, .fz, .fz, .fz, .fz, .fz, .fz]) F sc__law_right (by intro h; first | rfl | cases h) (fun cdv A0 outer s0 H E M v0 hr S hc => ?_)
  have A := S.toAgr
  exact (ss_cons (m' := [.ow 1, .fz, .fz, .fz, .fz, .fz, .fz, .fz, .fz, .fz, .fz, .fz, .fz]) (sd_parT A (show PA _ _ (tAK _ _ _ [.fz, .fz] _) from (pk_cons (pd_b1 (f_len) call_lenA (by rfl) W.z_len (pd_var (i := 1) rfl)) (fun F0 => (pk_cons (pd_c (Agr.plus A) (ok__law_left W) (hr.mono (by decide)) (pa_consD (pd_var (i := 1) rfl) pa_nilD)) (fun F1 => pk_nil))))) (gn_cons A (i := 2) rfl (gn_cons A (i := 3) rfl gn_nil)))
  (ss_cons (m' := [.ow 1, .fz, .fz, .fz, .ow 1, .fz, .fz, .fz, .fz, .fz, .fz, .fz, .fz]) (sd_setLc (i := 4) A rfl (pi_rng1D (pa_consD (pd_var (i := 2) rfl) pa_nilD) W.z_range) (blkOk_by (own := [("one", 5)]) (by rfl)) (fun s H Cc cl fp F => (tg_name (i := 5) (Agr.blk A) rfl)) (fun s H Cc cl fp F => (ts_one (td_lt (pd_b1 (f_min) (cr_min rfl) (by rfl) W.z_min (pd_sli (Agr.blk A) (pd_c (Agr.blk A) (ok__law_line W) (hr.mono (by decide)) (pa_consD (pd_var (i := 1) rfl) (pa_consD (pd_var (i := 5) rfl) (pa_consD (pd_add (Agr.blk A) (pd_mul (Agr.blk A) pd_int (pd_var (i := 2) rfl)) pd_int) pa_nilD)))) (po_someD pd_int) po_noD)) pd_int))) (fun s H Cc cl fp F => (pd_var (i := 5) rfl)))
  (ss_cons (m' := [.ow 1, .fz, .fz, .fz, .ow 1, .fz, .fz, .fz, .fz, .fz, .fz, .fz, .fz]) (sd_set (i := 6) A (pd_eq A (pd_varB (i := 4) (n := 1) rfl) (pd_lst pa_nilD)) rfl)
  (ss_cons (m' := [.ow 1, .fz, .fz, .fz, .ow 1, .fz, .fz, .fz, .fz, .fz, .fz, .fz, .fz]) (sd_if (PW.pt (tw_or (td_ne A (pd_gt (pd_b1 (f_min) (cr_min rfl) (by rfl) W.z_min (pd_var (i := 3) rfl)) pd_int) (pd_var (i := 6) rfl)) (tw_or (td_ne A (pd_repr A W.z_repr (pd_c A (ok_is_endless W) (hr.mono (by decide)) (pa_consD (pd_var (i := 1) rfl) pa_nilD))) (pd_repr A W.z_repr (pd_var (i := 6) rfl))) (tw_or1 (td_ne A (pd_cK A (k_is_endless_numbers W) (hr.mono (by decide)) (kw_cons (pd_var (i := 1) rfl) kw_nil)) (pd_var (i := 6) rfl)))))) (ss_cons (m' := [.ow 1, .fz, .fz, .fz, .ow 1, .fz, .fz, .fz, .fz, .fz, .fz, .fz, .fz]) (sd_ret pd_bl) ss_never) (ss_nil []))
  (ss_cons (m' := [.ow 1, .fz, .fz, .fz, .ow 1, .fz, .fz, .fz, .fz, .fz, .fz, .fz, .fz]) (sd_if (PW.pt (tw_or (td_ne A (pd_repr A W.z_repr (pd_c A (ok_left_of W) (hr.mono (by decide)) (pa_consD (pd_var (i := 1) rfl) pa_nilD))) (pd_repr A W.z_repr (pd_t1 (f_tuple) call_tuple_of (by rfl) W.z_tuple (pd_var (i := 3) rfl)))) (tw_or1 (td_ne A (pd_cK A (k_left_of_numbers W) (hr.mono (by decide)) (kw_cons (pd_var (i := 1) rfl) kw_nil)) (pd_t1 (f_tuple) call_tuple_of (by rfl) W.z_tuple (pd_var (i := 3) rfl)))))) (ss_cons (m' := [.ow 1, .fz, .fz, .fz, .ow 1, .fz, .fz, .fz, .fz, .fz, .fz, .fz, .fz]) (sd_ret pd_bl) ss_never) (ss_nil []))
  (ss_cons (m' := [.ow 1, .fz, .fz, .fz, .ow 1, .fz, .fz, .fz, .fz, .fz, .fz, .fz, .fz]) (sd_set (i := 7) A (pd_c A (ok__law_trace W) (hr.mono (by decide)) (pa_consD (pd_var (i := 1) rfl) pa_nilD)) rfl)
  (ss_cons (m' := [.ow 1, .fz, .fz, .fz, .ow 1, .fz, .fz, .fz, .fz, .fz, .fz, .fz, .fz]) (sd_if (PW.pt (tw_or (td_ne A (pd_repr A W.z_repr (pd_c A (ok_row_trace W) (hr.mono (by decide)) (pa_consD (pd_var (i := 1) rfl) pa_nilD))) (pd_repr A W.z_repr (pd_var (i := 7) rfl))) (tw_or (td_ne A (pd_cK A (k_row_trace_numbers W) (hr.mono (by decide)) (kw_cons (pd_var (i := 1) rfl) kw_nil)) (pd_var (i := 7) rfl)) (tw_or1 (td_ne A (pd_c A (ok__law_trace W) (hr.mono (by decide)) (pa_consD (pd_var (i := 3) rfl) pa_nilD)) (pd_var (i := 7) rfl)))))) (ss_cons (m' := [.ow 1, .fz, .fz, .fz, .ow 1, .fz, .fz, .fz, .fz, .fz, .fz, .fz, .fz]) (sd_ret pd_bl) ss_never) (ss_nil []))
  (ss_cons (m' := [.ow 1, .fz, .fz, .fz, .ow 1, .fz, .fz, .fz, .fz, .fz, .fz, .fz, .fz]) (sd_if (PW.pt (tw_and (td_val A (pd_var (i := 6) rfl)) (tw_and1 (td_lt (pd_var (i := 7) rfl) pd_int)))) (ss_cons (m' := [.ow 1, .fz, .fz, .fz, .ow 1, .fz, .fz, .fz, .fz, .fz, .fz, .fz, .fz]) (sd_ret pd_bl) ss_never) (ss_nil []))
  (ss_cons (m' := [.ow 1, .fz, .fz, .fz, .ow 1, .fz, .fz, .fz, .fz, .fz, .fz, .fz, .fz]) (sd_set (i := 8) A (pd_c A (ok_endless_paper W) (hr.mono (by decide)) (pa_consD (pd_var (i := 1) rfl) pa_nilD)) rfl)
  (ss_cons (m' := [.ow 1, .fz, .fz, .fz, .ow 1, .fz, .fz, .fz, .fz, .fz, .fz, .fz, .fz]) (sd_set (i := 9) A (pd_c A (ok__law_due W) (hr.mono (by decide)) (pa_consD (pd_var (i := 1) rfl) (pa_consD (pd_var (i := 8) rfl) pa_nilD))) rfl)
  (ss_cons (m' := [.ow 1, .fz, .fz, .fz, .ow 1, .fz, .fz, .fz, .fz, .fz, .fz, .fz, .fz]) (sd_if (PW.pt (tw_or (td_ne A (pd_var (i := 9) rfl) (pd_ifE (td_val A (pd_var (i := 6) rfl)) pd_str pd_str)) (tw_or1 (td_ne A (pd_cK A (k_endless_paper_numbers W) (hr.mono (by decide)) (kw_cons (pd_var (i := 1) rfl) kw_nil)) (pd_var (i := 8) rfl))))) (ss_cons (m' := [.ow 1, .fz, .fz, .fz, .ow 1, .fz, .fz, .fz, .fz, .fz, .fz, .fz, .fz]) (sd_ret pd_bl) ss_never) (ss_nil []))
  (ss_cons (m' := [.ow 1, .fz, .fz, .fz, .ow 1, .fz, .fz, .fz, .fz, .fz, .fz, .fz, .fz]) (sd_if (td_ne A (pd_cK A (k_check_endless_paper_numbers W) (hr.mono (by decide)) (kw_cons (pd_var (i := 8) rfl) (kw_cons (pd_var (i := 1) rfl) kw_nil))) (pd_var (i := 9) rfl)) (ss_cons (m' := [.ow 1, .fz, .fz, .fz, .ow 1, .fz, .fz, .fz, .fz, .fz, .fz, .fz, .fz]) (sd_ret pd_bl) ss_never) (ss_nil []))
  (ss_cons (m' := [.ow 1, .fz, .fz, .fz, .ow 1, .fz, .fz, .fz, .fz, .fz, .fz, .fz, .fz]) (sd_for S (pi_seqD A (pd_cIO A (ok__law_papers W) (hr.mono (by decide)) (i := 0) rfl rfl (pa_consD (pd_var (i := 1) rfl) (pa_consD (pd_var (i := 8) rfl) pa_nilD)))) (tg_name (i := 10) A rfl) (ss_cons (m' := [.ow 1, .fz, .fz, .fz, .ow 1, .fz, .fz, .fz, .fz, .fz, .fz, .fz, .fz]) (sd_if (td_ne A (pd_c A (ok__law_told W) (hr.mono (by decide)) (pa_consD (pd_var (i := 1) rfl) (pa_consD (pd_var (i := 10) rfl) pa_nilD))) (pd_c A (ok__law_due W) (hr.mono (by decide)) (pa_consD (pd_var (i := 1) rfl) (pa_consD (pd_var (i := 10) rfl) pa_nilD)))) (ss_cons (m' := [.ow 1, .fz, .fz, .fz, .ow 1, .fz, .fz, .fz, .fz, .fz, .fz, .fz, .fz]) (sd_ret pd_bl) ss_never) (ss_nil []))
  (ss_nil [])))
  (ss_cons (m' := [.ow 1, .fz, .fz, .fz, .ow 1, .fz, .fz, .fz, .fz, .fz, .fz, .fz, .fz]) (sd_par (i := 5) (j := 11) A (show PA _ _ (tAK _ _ _ [.fz, .fz] _) from (pk_cons (pd_cIO A (ok__law_digit W) (hr.mono (by decide)) (i := 0) rfl rfl (pa_consD (pd_var (i := 2) rfl) pa_nilD)) (fun F0 => (pk_cons (pd_cIO (Agr.plus A) (ok__law_digit W) (hr.mono (by decide)) (i := 0) rfl rfl (pa_consD pd_int pa_nilD)) (fun F1 => pk_nil))))) rfl rfl)
  (ss_cons (m' := [.ow 1, .fz, .fz, .fz, .ow 1, .fz, .fz, .fz, .fz, .fz, .fz, .fz, .fz]) (sd_set (i := 12) A (pd_itemU A (pd_c A (ok__law_line W) (hr.mono (by decide)) (pa_consD (pd_var (i := 1) rfl) (pa_consD (pd_var (i := 5) rfl) (pa_consD (pd_var (i := 11) rfl) pa_nilD)))) (pd_neg pd_int)) rfl)
  (ss_cons (m' := [.ow 1, .fz, .fz, .fz, .ow 1, .fz, .fz, .fz, .fz, .fz, .fz, .fz, .fz]) (sd_if (td_ne A (pd_repr A W.z_repr (pd_c A (ok_entry_between W) (hr.mono (by decide)) (pa_consD (pd_var (i := 1) rfl) (pa_consD (pd_var (i := 5) rfl) (pa_consD (pd_add A (pd_var (i := 5) rfl) (pd_var (i := 11) rfl)) pa_nilD))))) (pd_repr A W.z_repr (pd_var (i := 12) rfl))) (ss_cons (m' := [.ow 1, .fz, .fz, .fz, .ow 1, .fz, .fz, .fz, .fz, .fz, .fz, .fz, .fz]) (sd_ret pd_bl) ss_never) (ss_nil []))
  (ss_cons (m' := [.ow 1, .fz, .fz, .fz, .fz, .fz, .fz, .fz, .fz, .fz, .fz, .fz, .fz]) (sd_ret (pd_eq A (pd_cK A (k_entry_between_other_one_numbers W) (hr.mono (by decide)) (kw_cons (pd_add A (pd_var (i := 5) rfl) (pd_var (i := 11) rfl)) (kw_cons (pd_var (i := 5) rfl) (kw_cons (pd_var (i := 1) rfl) kw_nil)))) (pd_var (i := 12) rfl))) ss_never)))))))))))))))))
theorem ok__law_right (W : Wd P w K mg base) : Cal P w K mg base 6 "_law_right" ["state", "numbers"] (spIO K mg 1 f__law_right) := by
  obtain ⟨fd, F⟩ := W.d__law_right
  exact ⟨_, fd, W.a__law_right, F.kp, g__law_right W F, bindsN F (fun _ _ _ _ _ _ us hl => match us, hl with | [_, _], _ => rfl)⟩
theorem sc__law_row : FnScope ["state", "is_long", "part", "found", "turn", "at"] ["state"] (defScope s__law_row) := ⟨rfl, rfl, rfl, by decide +kernel, rfl, by decide +kernel, by decide +kernel⟩
theorem g__law_row (W : Wd P w K mg base) {fd : FuncData} (F : FunD K "_law_row" "_law_row" (defArgs s__law_row) (defBody s__law_row) (defScope s__law_row) [] [] (He.ga K "_law_row") fd) : FnG P w K mg base 3 (He.ga K "_law_row") fd ["state"] (spIO K mg 1 f__law_row) := by
  refine okIO (ex := exT K fs) (k := 2) (b := false) (mn := [.ow 1, .fz, .fz, .fz, .fz, .fz]) (mb := [.ow 1, .fz, .fz, .fz, .fz, .fz]) (mc := [.ow 1, .fz, .fz, .fz, .fz, .fz]) F sc__law_row (by intro h; first | rfl | cases h) (fun cdv A0 outer s0 H E M v0 hr S hc => ?_)
  have A := S.toAgr
  exact (ss_cons (m' := [.ow 1, .fz, .fz, .fz, .fz, .fz]) (sd_set (i := 1) A (pd_eq A (pd_cIO A (ok__law_digit W) (hr.mono (by decide)) (i := 0) rfl rfl (pa_consD pd_int pa_nilD)) pd_int) rfl)
  (ss_cons (m' := [.ow 1, .fz, .fz, .fz, .fz, .fz]) (sd_if (td_eq A (pd_cIO A (ok__law_digit W) (hr.mono (by decide)) (i := 0) rfl rfl (pa_consD pd_int pa_nilD)) pd_int) (ss_cons (m' := [.ow 1, .fz, .fz, .fz, .fz, .fz]) (sd_ret (pd_t1 (f_tuple) call_tuple_of (by rfl) W.z_tuple (pd_lc A (pi_rng1D (pa_consD (pd_add A pd_int (pd_cIO A (ok__law_digit W) (hr.mono (by decide)) (i := 0) rfl rfl (pa_consD (pd_ifE (td_val A (pd_var (i := 1) rfl)) pd_int pd_int) pa_nilD))) pa_nilD) W.z_range) (blkOk_by (own := [("part", 2)]) (by rfl)) (fun s H Cc cl fp F => (tg_name (i := 2) (Agr.blk A) rfl)) (fun s H Cc cl fp F => ts_nil) (fun s H Cc cl fp F => (pd_sub (pd_cIO (Agr.blk A) (ok__law_digit W) (hr.mono (by decide)) (i := 0) rfl rfl (pa_consD pd_int pa_nilD)) pd_int))))) ss_never) (ss_nil []))
  (ss_cons (m' := [.ow 1, .fz, .fz, .ow 1, .fz, .fz]) (sd_setLc (i := 3) A rfl (pi_rng1D (pa_consD (pd_add A pd_int (pd_cIO A (ok__law_digit W) (hr.mono (by decide)) (i := 0) rfl rfl (pa_consD (pd_ifE (td_val A (pd_var (i := 1) rfl)) pd_int pd_int) pa_nilD))) pa_nilD) W.z_range) (blkOk_by (own := [("part", 2)]) (by rfl)) (fun s H Cc cl fp F => (tg_name (i := 2) (Agr.blk A) rfl)) (fun s H Cc cl fp F => ts_nil) (fun s H Cc cl fp F => (pd_add (Agr.blk A) pd_int (pd_cIO (Agr.blk A) (ok__law_digit W) (hr.mono (by decide)) (i := 0) rfl rfl (pa_consD pd_int pa_nilD)))))
  (ss_cons (m' := [.ow 1, .fz, .fz, .ow 1, .fz, .fz]) (sd_for S (pi_rng1D (pa_consD (pd_cIO A (ok__law_digit W) (hr.mono (by decide)) (i := 0) rfl rfl (pa_consD (pd_ifE (td_val A (pd_var (i := 1) rfl)) pd_int pd_int) pa_nilD)) pa_nilD) W.z_range) (tg_name (i := 4) A rfl) (ss_cons (m' := [.ow 1, .fz, .fz, .ow 1, .fz, .fz]) (sd_set (i := 5) A (pd_cIO A (ok__law_digit W) (hr.mono (by decide)) (i := 0) rfl rfl (pa_consD (pd_b1 (f_len) call_lenA (by rfl) W.z_len (pd_varB (i := 3) (n := 1) rfl)) pa_nilD)) rfl)
  (ss_cons (m' := [.ow 1, .fz, .fz, .ow 1, .fz, .fz]) (sd_setL (i := 3) (n := 0) A rfl (pd_add A (pd_b0 (pd_itemB (n := 0) A (pd_varB (i := 3) (n := 1) rfl) (pd_var (i := 5) rfl))) pd_int) (fun F => (pd_var (i := 5) rfl)) rfl)
  (ss_cons (m' := [.ow 1, .fz, .fz, .ow 1, .fz, .fz]) (sd_setL (i := 3) (n := 0) A rfl (pd_add A (pd_b0 (pd_itemB (n := 0) A (pd_varB (i := 3) (n := 1) rfl) (pd_mod (pd_add A (pd_var (i := 5) rfl) pd_int) (pd_b1 (f_len) call_lenA (by rfl) W.z_len (pd_varB (i := 3) (n := 1) rfl))))) pd_int) (fun F => (pd_mod (pd_add (Agr.plus A) (pd_var (i := 5) rfl) pd_int) (pd_b1 (f_len) call_lenA (by rfl) W.z_len (pd_varB (i := 3) (n := 1) rfl)))) rfl)
  (ss_cons (m' := [.ow 1, .fz, .fz, .ow 1, .fz, .fz]) (sd_set (i := 3) A (pd_catL (pd_add A (pd_sli A (pd_varB (i := 3) (n := 1) rfl) po_noD (po_someD (pd_add A (pd_var (i := 5) rfl) pd_int))) (pd_fz (pd_lst (pa_consD pd_int pa_nilD)))) (pd_sli A (pd_varB (i := 3) (n := 1) rfl) (po_someD (pd_add A (pd_var (i := 5) rfl) pd_int)) po_noD)) rfl)
  (ss_nil []))))))
  (ss_cons (m' := [.ow 1, .fz, .fz, .ow 1, .fz, .fz]) (sd_if (td_eq A (pd_cIO A (ok__law_digit W) (hr.mono (by decide)) (i := 0) rfl rfl (pa_consD pd_int pa_nilD)) pd_int) (ss_cons (m' := [.ow 1, .fz, .fz, .ow 1, .fz, .fz]) (sd_set (i := 5) A (pd_cIO A (ok__law_digit W) (hr.mono (by decide)) (i := 0) rfl rfl (pa_consD (pd_b1 (f_len) call_lenA (by rfl) W.z_len (pd_varB (i := 3) (n := 1) rfl)) pa_nilD)) rfl)
  (ss_cons (m' := [.ow 1, .fz, .fz, .ow 1, .fz, .fz]) (sd_setL (i := 3) (n := 0) A rfl (pd_sub (pd_sub (pd_b0 (pd_itemB (n := 0) A (pd_varB (i := 3) (n := 1) rfl) (pd_var (i := 5) rfl))) pd_int) (pd_cIO A (ok__law_digit W) (hr.mono (by decide)) (i := 0) rfl rfl (pa_consD pd_int pa_nilD))) (fun F => (pd_var (i := 5) rfl)) rfl)
  (ss_nil []))) (ss_nil []))
  (ss_cons (m' := [.ow 1, .fz, .fz, .fz, .fz, .fz]) (sd_ret (pd_t1 (f_tuple) call_tuple_of (by rfl) W.z_tuple (pd_varB (i := 3) (n := 1) rfl))) ss_never))))))
theorem ok__law_row (W : Wd P w K mg base) : Cal P w K mg base 3 "_law_row" ["state"] (spIO K mg 1 f__law_row) := by
  obtain ⟨fd, F⟩ := W.d__law_row
  exact ⟨_, fd, W.a__law_row, F.kp, g__law_row W F, bindsN F (fun _ _ _ _ _ _ us hl => match us, hl with | [_], _ => rfl)⟩
theorem sc_law : FnScope ["script", "k", "cell", "state", "known", "row", "due"] ["script"] (defScope s_law) := ⟨rfl, rfl, rfl, by decide +kernel, rfl, by decide +kernel, by decide +kernel⟩
theorem g_law (W : Wd P w K mg base) {fd : FuncData} (F : FunD K "law" "law" (defArgs s_law) (defBody s_law) (defScope s_law) [] [] (He.ga K "law") fd) : FnG P w K mg base 7 (He.ga K "law") fd ["script"] (spF K mg (exT K fs) .fz f_law) := by
  refine okF (k := 6) (b := false) (mn := [.fz, .fz, .fz, .fz, .fz, .fz, .fz]) (mb := [.fz, .fz, .fz, .fz, .fz, .fz, .fz]) (mc := [.fz, .fz, .fz, .fz, .fz, .fz, .fz]) F sc_law rfl (by intro h; first | rfl | cases h) (fun cdv A0 outer s0 H E M hr S hc => ?_)
  have A := S.toAgr
  exact (ss_cons (m' := [.fz, .fz, .fz, .fz, .fz, .fz, .fz]) (sd_for S (pi_enumU A (pa_consD (pd_add A (pd_sli A (pd_var (i := 0) rfl) po_noD (po_someD pd_int)) (pd_fz (pd_lst (pa_consD (pd_b1 (f_sum) (cr_sum rfl) (by rfl) W.z_sum (pd_var (i := 0) rfl)) pa_nilD)))) pa_nilD) W.z_enumerate) (tg_tup A (tg_cons (tg_name (i := 1) A rfl) (tg_cons (tg_name (i := 2) A rfl) tg_nil))) (ss_cons (m' := [.fz, .fz, .fz, .ow 1, .fz, .fz, .fz]) (sd_set (i := 3) A (pd_c A (ok__law_draw W) (hr.mono (by decide)) (pa_consD (pd_var (i := 2) rfl) (pa_consD (pd_var (i := 1) rfl) pa_nilD))) rfl)
  (ss_cons (m' := [.fz, .fz, .fz, .ow 1, .fz, .fz, .fz]) (sd_if (td_not (td_val A (pd_cIO A (ok__law_right W) (hr.mono (by decide)) (i := 3) rfl rfl (pa_consD (pd_cIO A (ok__law_row W) (hr.mono (by decide)) (i := 3) rfl rfl pa_nilD) pa_nilD)))) (ss_cons (m' := [.fz, .fz, .fz, .ow 1, .fz, .fz, .fz]) (sd_ret pd_bl) ss_never) (ss_nil []))
  (ss_nil []))))
  (ss_cons (m' := [.fz, .fz, .fz, .fz, .ow 1, .fz, .fz]) (sd_set (i := 4) A (pd_lst (pa_consD (pd_tup (pa_consD (pd_tup (pa_consD pd_int pa_nilD)) (pa_consD pd_bl pa_nilD))) (pa_consD (pd_tup (pa_consD (pd_tup (pa_consD pd_int pa_nilD)) (pa_consD pd_bl pa_nilD))) (pa_consD (pd_tup (pa_consD (pd_tup (pa_consD pd_int (pa_consD pd_int pa_nilD))) (pa_consD pd_bl pa_nilD))) (pa_consD (pd_tup (pa_consD (pd_tup (pa_consD pd_int (pa_consD pd_int pa_nilD))) (pa_consD pd_bl pa_nilD))) (pa_consD (pd_tup (pa_consD (pd_tup (pa_consD pd_int (pa_consD pd_int pa_nilD))) (pa_consD pd_bl pa_nilD))) (pa_consD (pd_tup (pa_consD (pd_tup (pa_consD pd_int pa_nilD)) (pa_consD pd_bl pa_nilD))) pa_nilD))))))) rfl)
  (ss_cons (m' := [.fz, .fz, .fz, .fz, .ow 1, .fz, .fz]) (sd_app (i := 4) (n := 0) A rfl (pd_tup (pa_consD (pd_tup (pa_consD pd_int (pa_consD pd_int (pa_consD pd_int (pa_consD pd_int pa_nilD))))) (pa_consD pd_bl pa_nilD))) rfl)
  (ss_conv (m' := [.fz, .fz, .fz, .fz, .fz, .fz, .fz]) [] (ss_cons (m' := [.fz, .fz, .fz, .fz, .fz, .fz, .fz]) (sd_if (td_ne A (pd_fz (pd_lc A (pi_seqD A (pd_var (i := 4) rfl)) (blkOk_by (own := [("row", 5), ("due", 6)]) (by rfl)) (fun s H Cc cl fp F => (tg_tup (Agr.blk A) (tg_cons (tg_name (i := 5) (Agr.blk A) rfl) (tg_cons (tg_name (i := 6) (Agr.blk A) rfl) tg_nil)))) (fun s H Cc cl fp F => ts_nil) (fun s H Cc cl fp F => (pd_c (Agr.blk A) (ok_is_endless W) (hr.mono (by decide)) (pa_consD (pd_var (i := 5) rfl) pa_nilD))))) (pd_lc A (pi_seqD A (pd_var (i := 4) rfl)) (blkOk_by (own := [("row", 5), ("due", 6)]) (by rfl)) (fun s H Cc cl fp F => (tg_tup (Agr.blk A) (tg_cons (tg_name (i := 5) (Agr.blk A) rfl) (tg_cons (tg_name (i := 6) (Agr.blk A) rfl) tg_nil)))) (fun s H Cc cl fp F => ts_nil) (fun s H Cc cl fp F => (pd_var (i := 6) rfl)))) (ss_cons (m' := [.fz, .fz, .fz, .fz, .fz, .fz, .fz]) (sd_ret pd_bl) ss_never) (ss_nil []))
  (ss_cons (m' := [.fz, .fz, .fz, .fz, .fz, .fz, .fz]) (sd_if (td_ne A (pd_lst (pa_consD (pd_c A (ok_is_endless W) (hr.mono (by decide)) (pa_consD (pd_mul A (pd_tup (pa_consD pd_int pa_nilD)) pd_int) pa_nilD)) (pa_consD (pd_c A (ok_is_endless W) (hr.mono (by decide)) (pa_consD (pd_mul A (pd_tup (pa_consD pd_int pa_nilD)) pd_int) pa_nilD)) (pa_consD (pd_c A (ok_is_endless W) (hr.mono (by decide)) (pa_consD (pd_tup (pa_consD (pd_neg pd_int) pa_nilD)) pa_nilD)) pa_nilD)))) (pd_lst (pa_consD pd_bl (pa_consD pd_bl (pa_consD pd_bl pa_nilD))))) (ss_cons (m' := [.fz, .fz, .fz, .fz, .fz, .fz, .fz]) (sd_ret pd_bl) ss_never) (ss_nil []))
  (ss_cons (m' := [.fz, .fz, .fz, .fz, .fz, .fz, .fz]) (sd_ret (pd_c0 A (ok__law_refused W) (hr.mono (by decide)))) ss_never)))))))
theorem ok_law (W : Wd P w K mg base) : Cal P w K mg base 7 "law" ["script"] (spF K mg (exT K fs) .fz f_law) := by
  obtain ⟨fd, F⟩ := W.d_law
  exact ⟨_, fd, W.a_law, F.kp, g_law W F, bindsN F (fun _ _ _ _ _ _ us hl => match us, hl with | [_], _ => rfl)⟩
end
end K60

/-! K60H -/
set_option Elab.async false
set_option linter.all false
set_option maxRecDepth 100000
set_option maxHeartbeats 0
namespace K60
open PySem PySem.Spec PyProof PyProof.Rows L2 Dn
def d__law_draw : He.DefD := ⟨("_law_draw", none), "_law_draw", "_law_draw", defArgs s__law_draw, defBody s__law_draw, defScope s__law_draw, [], []⟩
def d_is_whole : He.DefD := ⟨("is_whole", none), "is_whole", "is_whole", defArgs s_is_whole, defBody s_is_whole, defScope s_is_whole, [], []⟩
def d_wrong_numbers : He.DefD := ⟨("wrong_numbers", none), "wrong_numbers", "wrong_numbers", defArgs s_wrong_numbers, defBody s_wrong_numbers, defScope s_wrong_numbers, [], []⟩
def d_need_numbers : He.DefD := ⟨("need_numbers", none), "need_numbers", "need_numbers", defArgs s_need_numbers, defBody s_need_numbers, defScope s_need_numbers, [], []⟩
def d_own_line : He.DefD := ⟨("own_line", none), "own_line", "own_line", defArgs s_own_line, defBody s_own_line, defScope s_own_line, [], []⟩
def d_own_entry : He.DefD := ⟨("own_entry", none), "own_entry", "own_entry", defArgs s_own_entry, defBody s_own_entry, defScope s_own_entry, [], []⟩
def d_own_step : He.DefD := ⟨("own_step", none), "own_step", "own_step", defArgs s_own_step, defBody s_own_step, defScope s_own_step, [], []⟩
def d_check_endless : He.DefD := ⟨("check_endless", none), "check_endless", "check_endless", defArgs s_check_endless, defBody s_check_endless, defScope s_check_endless, [], []⟩
def d_own_left : He.DefD := ⟨("own_left", none), "own_left", "own_left", defArgs s_own_left, defBody s_own_left, defScope s_own_left, [], []⟩
def d_endless_paper : He.DefD := ⟨("endless_paper", none), "endless_paper", "endless_paper", defArgs s_endless_paper, defBody s_endless_paper, defScope s_endless_paper, [], []⟩
def d_entry_between : He.DefD := ⟨("entry_between", none), "entry_between", "entry_between", defArgs s_entry_between, defBody s_entry_between, defScope s_entry_between, [], []⟩
def d_own_endless : He.DefD := ⟨("own_endless", none), "own_endless", "own_endless", defArgs s_own_endless, defBody s_own_endless, defScope s_own_endless, [], []⟩
def d_is_endless : He.DefD := ⟨("is_endless", none), "is_endless", "is_endless", defArgs s_is_endless, defBody s_is_endless, defScope s_is_endless, [], []⟩
def d_left_of : He.DefD := ⟨("left_of", none), "left_of", "left_of", defArgs s_left_of, defBody s_left_of, defScope s_left_of, [], []⟩
def d_own_trace : He.DefD := ⟨("own_trace", none), "own_trace", "own_trace", defArgs s_own_trace, defBody s_own_trace, defScope s_own_trace, [], []⟩
def d_row_trace : He.DefD := ⟨("row_trace", none), "row_trace", "row_trace", defArgs s_row_trace, defBody s_row_trace, defScope s_row_trace, [], []⟩
def d__law_refused : He.DefD := ⟨("_law_refused", none), "_law_refused", "_law_refused", defArgs s__law_refused, defBody s__law_refused, defScope s__law_refused, [], []⟩
def d__law_mixed : He.DefD := ⟨("_law_mixed", none), "_law_mixed", "_law_mixed", defArgs s__law_mixed, defBody s__law_mixed, defScope s__law_mixed, [], []⟩
def d__law_digit : He.DefD := ⟨("_law_digit", none), "_law_digit", "_law_digit", defArgs s__law_digit, defBody s__law_digit, defScope s__law_digit, [], []⟩
def d__law_line : He.DefD := ⟨("_law_line", none), "_law_line", "_law_line", defArgs s__law_line, defBody s__law_line, defScope s__law_line, [], []⟩
def d__law_without : He.DefD := ⟨("_law_without", none), "_law_without", "_law_without", defArgs s__law_without, defBody s__law_without, defScope s__law_without, [], []⟩
def d__law_due : He.DefD := ⟨("_law_due", none), "_law_due", "_law_due", defArgs s__law_due, defBody s__law_due, defScope s__law_due, [], []⟩
def d__law_left : He.DefD := ⟨("_law_left", none), "_law_left", "_law_left", defArgs s__law_left, defBody s__law_left, defScope s__law_left, [], []⟩
def d__law_papers : He.DefD := ⟨("_law_papers", none), "_law_papers", "_law_papers", defArgs s__law_papers, defBody s__law_papers, defScope s__law_papers, [], []⟩
def d__law_told : He.DefD := ⟨("_law_told", none), "_law_told", "_law_told", defArgs s__law_told, defBody s__law_told, defScope s__law_told, [], []⟩
def d__law_trace : He.DefD := ⟨("_law_trace", none), "_law_trace", "_law_trace", defArgs s__law_trace, defBody s__law_trace, defScope s__law_trace, [], []⟩
def d__law_right : He.DefD := ⟨("_law_right", none), "_law_right", "_law_right", defArgs s__law_right, defBody s__law_right, defScope s__law_right, [], []⟩
def d__law_row : He.DefD := ⟨("_law_row", none), "_law_row", "_law_row", defArgs s__law_row, defBody s__law_row, defScope s__law_row, [], []⟩
def d_law : He.DefD := ⟨("law", none), "law", "law", defArgs s_law, defBody s_law, defScope s_law, [], []⟩
abbrev i_BadNumber : Stmt := clB (top 2) 0
def di_BadNumber : He.DefD := ⟨("BadNumber", some "__init__"), "__init__", "BadNumber.__init__", defArgs i_BadNumber, defBody i_BadNumber, defScope i_BadNumber, [.non], []⟩
abbrev i_BadRow : Stmt := clB (top 3) 0
def di_BadRow : He.DefD := ⟨("BadRow", some "__init__"), "__init__", "BadRow.__init__", defArgs i_BadRow, defBody i_BadRow, defScope i_BadRow, [.non], []⟩
abbrev i_BadPaper : Stmt := clB (top 4) 0
def di_BadPaper : He.DefD := ⟨("BadPaper", some "__init__"), "__init__", "BadPaper.__init__", defArgs i_BadPaper, defBody i_BadPaper, defScope i_BadPaper, [.non], []⟩
def fn : List He.DefD := [d__law_draw, d_is_whole, d_wrong_numbers, d_need_numbers, d_own_line, d_own_entry, d_own_step, d_check_endless, d_own_left, d_endless_paper, d_entry_between, d_own_endless, d_is_endless, d_left_of, d_own_trace, d_row_trace, d__law_refused, d__law_mixed, d__law_digit, d__law_line, d__law_without, d__law_due, d__law_left, d__law_papers, d__law_told, d__law_trace, d__law_right, d__law_row, d_law, di_BadNumber, di_BadRow, di_BadPaper]
def fa : List He.Fa := [.glo "_law_draw", .glo "is_whole", .glo "wrong_numbers", .glo "need_numbers", .glo "own_line", .glo "own_entry", .glo "own_step", .glo "check_endless", .glo "own_left", .glo "endless_paper", .glo "entry_between", .glo "own_endless", .glo "is_endless", .glo "left_of", .glo "own_trace", .glo "row_trace", .glo "_law_refused", .glo "_law_mixed", .glo "_law_digit", .glo "_law_line", .glo "_law_without", .glo "_law_due", .glo "_law_left", .glo "_law_papers", .glo "_law_told", .glo "_law_trace", .glo "_law_right", .glo "_law_row", .glo "law", .free "bool", .free "enumerate", .free "int", .free "isinstance", .free "len", .free "list", .free "min", .free "range", .free "repr", .free "str", .free "sum", .free "tuple", .int "MOST_ORDER" 24, .int "MOST_PART" 1000, .int "MOST_FAR" 2000, .glo "WholeError", .glo "BadNumber", .glo "BadRow", .glo "BadPaper"]
def nm0 : List PySem.Str := ["WholeError", "BadNumber", "BadRow", "BadPaper", "is_whole", "MOST_ORDER", "MOST_PART", "wrong_numbers", "need_numbers", "own_line", "own_entry", "own_trace", "MOST_FAR", "own_step", "own_left", "left_of", "own_endless", "is_endless", "endless_paper", "check_endless", "row_trace", "entry_between", "_law_mixed", "_law_draw", "_law_digit", "_law_order", "_law_line", "_law_row", "_law_without", "_law_left"]
def nm1 : List PySem.Str := ["_law_trace", "_law_due", "_law_told", "_law_papers", "_law_right", "_law_refused"]
def names : List PySem.Str := nm0 ++ nm1
def noL (K : PySem.W.Frag) : Bool := K.all fun q => !decide (q.2.cls = .type "list")
def exb (K : PySem.W.Frag) : Bool := noL K && (exkB K "BadNumber" "value" "WholeError" && exkB K "BadRow" "place" "WholeError" && exkB K "BadPaper" "place" "WholeError")
def tf : List He.Defn := [("_law_refused", none)]
abbrev R : PySem.W.OpenRow := PySem.W.OpenLaw.row PySem.Challenge.rw_alwayswhole_k60_whole_endless_rows
abbrev hk : PySem.W.Hook := hookY 5 fa fn tf exb
def ob (s : PySem.W.SharedT) : He.AlD × Bool := obsY 5 fa fn tf exb (HandSHeadRun.getT s)
theorem ob_eq (s : PySem.W.SharedT) : ob s = hk.obs s.abs := obsY_eq (HandSHeadRun.getT_eq s)
theorem run (w : World) : HandSHeadRun.RunEq R (PySem.W.view R.prog [41]) hk ob 6000 names w := by
  intro os
  kernel_rfl
section
variable [LamTab] {P : Program} {w : World} {K : PySem.W.Frag} {mg : Str → Option Value} {base : Heap}
theorem si_BadNumber : FnScope ["self", "value"] ["self", "value"] (defScope i_BadNumber) := ⟨rfl, rfl, rfl, by decide +kernel, rfl, by decide +kernel, by decide +kernel⟩
theorem e_BadNumber (kk : ExK K "BadNumber" "value" "WholeError") (hg : mg "BadNumber" = some (.ref (He.ga K "BadNumber"))) (hW : mg "WholeError" = some (.ref (He.ga K "WholeError"))) {fd : FuncData} (F : FunD K "__init__" "BadNumber.__init__" (defArgs i_BadNumber) (defBody i_BadNumber) (defScope i_BadNumber) [V.non] [] (He.ma K (He.ga K "BadNumber") "__init__") fd) : ExF P w K mg base 1 "BadNumber" "value" ["self", "value"] := by
  obtain ⟨ds, hv, hb⟩ := F.binds1 (ps := ["self", "value"]) 2 1 (by simp) rfl (fun T kV doc pm an cdv ct us its h1 h2 => match us, its, h1, h2 with | [_, _], [_], _, _ => ⟨_, rfl, rfl⟩)
  cases hv
  exact ⟨hg, ⟨_, fd, kk.o, kk.i, kk.t, okE (z := "no such number") F si_BadNumber (fun cdv A outer s H E => pss_cons (ps_expr (pe_winit rfl hW kk.sp kk.re kk.fi (pa_cons (pe_var (i := 0) rfl (Or.inl rfl)) (pa_cons pe_str pa_nil)))) (pss_one (ps_ost (pe_var (i := 0) rfl (Or.inl rfl)) (pe_var (i := 1) rfl (Or.inl rfl))))), hb⟩, kk.no, kk.rd, kk.same⟩
theorem si_BadRow : FnScope ["self", "place"] ["self", "place"] (defScope i_BadRow) := ⟨rfl, rfl, rfl, by decide +kernel, rfl, by decide +kernel, by decide +kernel⟩
theorem e_BadRow (kk : ExK K "BadRow" "place" "WholeError") (hg : mg "BadRow" = some (.ref (He.ga K "BadRow"))) (hW : mg "WholeError" = some (.ref (He.ga K "WholeError"))) {fd : FuncData} (F : FunD K "__init__" "BadRow.__init__" (defArgs i_BadRow) (defBody i_BadRow) (defScope i_BadRow) [V.non] [] (He.ma K (He.ga K "BadRow") "__init__") fd) : ExF P w K mg base 1 "BadRow" "place" ["self", "place"] := by
  obtain ⟨ds, hv, hb⟩ := F.binds1 (ps := ["self", "place"]) 2 1 (by simp) rfl (fun T kV doc pm an cdv ct us its h1 h2 => match us, its, h1, h2 with | [_, _], [_], _, _ => ⟨_, rfl, rfl⟩)
  cases hv
  exact ⟨hg, ⟨_, fd, kk.o, kk.i, kk.t, okE (z := "no such row") F si_BadRow (fun cdv A outer s H E => pss_cons (ps_expr (pe_winit rfl hW kk.sp kk.re kk.fi (pa_cons (pe_var (i := 0) rfl (Or.inl rfl)) (pa_cons pe_str pa_nil)))) (pss_one (ps_ost (pe_var (i := 0) rfl (Or.inl rfl)) (pe_var (i := 1) rfl (Or.inl rfl))))), hb⟩, kk.no, kk.rd, kk.same⟩
theorem si_BadPaper : FnScope ["self", "place"] ["self", "place"] (defScope i_BadPaper) := ⟨rfl, rfl, rfl, by decide +kernel, rfl, by decide +kernel, by decide +kernel⟩
theorem e_BadPaper (kk : ExK K "BadPaper" "place" "WholeError") (hg : mg "BadPaper" = some (.ref (He.ga K "BadPaper"))) (hW : mg "WholeError" = some (.ref (He.ga K "WholeError"))) {fd : FuncData} (F : FunD K "__init__" "BadPaper.__init__" (defArgs i_BadPaper) (defBody i_BadPaper) (defScope i_BadPaper) [V.non] [] (He.ma K (He.ga K "BadPaper") "__init__") fd) : ExF P w K mg base 1 "BadPaper" "place" ["self", "place"] := by
  obtain ⟨ds, hv, hb⟩ := F.binds1 (ps := ["self", "place"]) 2 1 (by simp) rfl (fun T kV doc pm an cdv ct us its h1 h2 => match us, its, h1, h2 with | [_, _], [_], _, _ => ⟨_, rfl, rfl⟩)
  cases hv
  exact ⟨hg, ⟨_, fd, kk.o, kk.i, kk.t, okE (z := "no such paper") F si_BadPaper (fun cdv A outer s H E => pss_cons (ps_expr (pe_winit rfl hW kk.sp kk.re kk.fi (pa_cons (pe_var (i := 0) rfl (Or.inl rfl)) (pa_cons pe_str pa_nil)))) (pss_one (ps_ost (pe_var (i := 0) rfl (Or.inl rfl)) (pe_var (i := 1) rfl (Or.inl rfl))))), hb⟩, kk.no, kk.rd, kk.same⟩
structure Exs (K : PySem.W.Frag) : Prop where
  p0 : exkB K "BadNumber" "value" "WholeError" = true
  p1 : exkB K "BadRow" "place" "WholeError" = true
  p2 : exkB K "BadPaper" "place" "WholeError" = true
theorem exs_of (h : exb K = true) : noL K = true ∧ Exs K := by
  unfold exb at h
  simp only [Bool.and_eq_true] at h
  obtain ⟨hn, ⟨⟨h0, h1⟩, h2⟩⟩ := h
  exact ⟨hn, ⟨h0, h1, h2⟩⟩
def ats : Nat → Option LamSyn := fun n => if n = 0 then some lam_0 else none
def tabsL (K : PySem.W.Frag) : List (Addr × Str) := [((He.cT K ("_law_refused", none)).2, "_law_refused.<locals>.<lambda>")]
theorem wd_of {h : Heap} (X : K.In h) (G : h.Ns mainGlobals mg) (c : SaysY fa fn tf exb h K) (TB : ∀ p ∈ tf.map (He.cT K), LamX.TabB base mg p.1 p.2) (hA : ∀ n, LamTab.at_ n = ats n) (hT : (LamTab.tabs : List (Addr × Str)) = tabsL K) : Wd P w K mg base := by
  have ex := (exs_of c.more).2
  unfold tabsL at hT
  exact {
    a__law_draw := He.glo_ok X G (c.d.fact 0 (f := .glo "_law_draw") rfl),
    d__law_draw := c.d.def_ 0 (d := d__law_draw) rfl,
    a_is_whole := He.glo_ok X G (c.d.fact 1 (f := .glo "is_whole") rfl),
    d_is_whole := c.d.def_ 1 (d := d_is_whole) rfl,
    a_wrong_numbers := He.glo_ok X G (c.d.fact 2 (f := .glo "wrong_numbers") rfl),
    d_wrong_numbers := c.d.def_ 2 (d := d_wrong_numbers) rfl,
    a_need_numbers := He.glo_ok X G (c.d.fact 3 (f := .glo "need_numbers") rfl),
    d_need_numbers := c.d.def_ 3 (d := d_need_numbers) rfl,
    a_own_line := He.glo_ok X G (c.d.fact 4 (f := .glo "own_line") rfl),
    d_own_line := c.d.def_ 4 (d := d_own_line) rfl,
    a_own_entry := He.glo_ok X G (c.d.fact 5 (f := .glo "own_entry") rfl),
    d_own_entry := c.d.def_ 5 (d := d_own_entry) rfl,
    a_own_step := He.glo_ok X G (c.d.fact 6 (f := .glo "own_step") rfl),
    d_own_step := c.d.def_ 6 (d := d_own_step) rfl,
    a_check_endless := He.glo_ok X G (c.d.fact 7 (f := .glo "check_endless") rfl),
    d_check_endless := c.d.def_ 7 (d := d_check_endless) rfl,
    a_own_left := He.glo_ok X G (c.d.fact 8 (f := .glo "own_left") rfl),
    d_own_left := c.d.def_ 8 (d := d_own_left) rfl,
    a_endless_paper := He.glo_ok X G (c.d.fact 9 (f := .glo "endless_paper") rfl),
    d_endless_paper := c.d.def_ 9 (d := d_endless_paper) rfl,
    a_entry_between := He.glo_ok X G (c.d.fact 10 (f := .glo "entry_between") rfl),
    d_entry_between := c.d.def_ 10 (d := d_entry_between) rfl,
    a_own_endless := He.glo_ok X G (c.d.fact 11 (f := .glo "own_endless") rfl),
    d_own_endless := c.d.def_ 11 (d := d_own_endless) rfl,
    a_is_endless := He.glo_ok X G (c.d.fact 12 (f := .glo "is_endless") rfl),
    d_is_endless := c.d.def_ 12 (d := d_is_endless) rfl,
    a_left_of := He.glo_ok X G (c.d.fact 13 (f := .glo "left_of") rfl),
    d_left_of := c.d.def_ 13 (d := d_left_of) rfl,
    a_own_trace := He.glo_ok X G (c.d.fact 14 (f := .glo "own_trace") rfl),
    d_own_trace := c.d.def_ 14 (d := d_own_trace) rfl,
    a_row_trace := He.glo_ok X G (c.d.fact 15 (f := .glo "row_trace") rfl),
    d_row_trace := c.d.def_ 15 (d := d_row_trace) rfl,
    a__law_refused := He.glo_ok X G (c.d.fact 16 (f := .glo "_law_refused") rfl),
    d__law_refused := c.d.def_ 16 (d := d__law_refused) rfl,
    a__law_mixed := He.glo_ok X G (c.d.fact 17 (f := .glo "_law_mixed") rfl),
    d__law_mixed := c.d.def_ 17 (d := d__law_mixed) rfl,
    a__law_digit := He.glo_ok X G (c.d.fact 18 (f := .glo "_law_digit") rfl),
    d__law_digit := c.d.def_ 18 (d := d__law_digit) rfl,
    a__law_line := He.glo_ok X G (c.d.fact 19 (f := .glo "_law_line") rfl),
    d__law_line := c.d.def_ 19 (d := d__law_line) rfl,
    a__law_without := He.glo_ok X G (c.d.fact 20 (f := .glo "_law_without") rfl),
    d__law_without := c.d.def_ 20 (d := d__law_without) rfl,
    a__law_due := He.glo_ok X G (c.d.fact 21 (f := .glo "_law_due") rfl),
    d__law_due := c.d.def_ 21 (d := d__law_due) rfl,
    a__law_left := He.glo_ok X G (c.d.fact 22 (f := .glo "_law_left") rfl),
    d__law_left := c.d.def_ 22 (d := d__law_left) rfl,
    a__law_papers := He.glo_ok X G (c.d.fact 23 (f := .glo "_law_papers") rfl),
    d__law_papers := c.d.def_ 23 (d := d__law_papers) rfl,
    a__law_told := He.glo_ok X G (c.d.fact 24 (f := .glo "_law_told") rfl),
    d__law_told := c.d.def_ 24 (d := d__law_told) rfl,
    a__law_trace := He.glo_ok X G (c.d.fact 25 (f := .glo "_law_trace") rfl),
    d__law_trace := c.d.def_ 25 (d := d__law_trace) rfl,
    a__law_right := He.glo_ok X G (c.d.fact 26 (f := .glo "_law_right") rfl),
    d__law_right := c.d.def_ 26 (d := d__law_right) rfl,
    a__law_row := He.glo_ok X G (c.d.fact 27 (f := .glo "_law_row") rfl),
    d__law_row := c.d.def_ 27 (d := d__law_row) rfl,
    a_law := He.glo_ok X G (c.d.fact 28 (f := .glo "law") rfl),
    d_law := c.d.def_ 28 (d := d_law) rfl,
    z_bool := He.free_ok X G (c.d.fact 29 (f := .free "bool") rfl),
    z_enumerate := He.free_ok X G (c.d.fact 30 (f := .free "enumerate") rfl),
    z_int := He.free_ok X G (c.d.fact 31 (f := .free "int") rfl),
    z_isinstance := He.free_ok X G (c.d.fact 32 (f := .free "isinstance") rfl),
    z_len := He.free_ok X G (c.d.fact 33 (f := .free "len") rfl),
    z_list := He.free_ok X G (c.d.fact 34 (f := .free "list") rfl),
    z_min := He.free_ok X G (c.d.fact 35 (f := .free "min") rfl),
    z_range := He.free_ok X G (c.d.fact 36 (f := .free "range") rfl),
    z_repr := He.free_ok X G (c.d.fact 37 (f := .free "repr") rfl),
    z_str := He.free_ok X G (c.d.fact 38 (f := .free "str") rfl),
    z_sum := He.free_ok X G (c.d.fact 39 (f := .free "sum") rfl),
    z_tuple := He.free_ok X G (c.d.fact 40 (f := .free "tuple") rfl),
    c_MOST_ORDER := He.int_ok X G (c.d.fact 41 (f := .int "MOST_ORDER" 24) rfl),
    c_MOST_PART := He.int_ok X G (c.d.fact 42 (f := .int "MOST_PART" 1000) rfl),
    c_MOST_FAR := He.int_ok X G (c.d.fact 43 (f := .int "MOST_FAR" 2000) rfl),
    t__law_refused := TB _ (List.mem_map_of_mem (by first | decide | simp [tf] : (("_law_refused", none) : He.Defn) ∈ tf)),
    lm__law_refused := by rw [hT]; simp,
    lu__law_refused := by rw [hT]; simp,
    la_0 := by rw [hA]; rfl,
    x_BadNumber := e_BadNumber (exkB_ok (ex.p0)) (He.glo_ok X G (c.d.fact 45 (f := .glo "BadNumber") rfl)) (He.glo_ok X G (c.d.fact 44 (f := .glo "WholeError") rfl)) (Classical.choose_spec (c.d.def_ 29 (d := di_BadNumber) rfl)),
    x_BadRow := e_BadRow (exkB_ok (ex.p1)) (He.glo_ok X G (c.d.fact 46 (f := .glo "BadRow") rfl)) (He.glo_ok X G (c.d.fact 44 (f := .glo "WholeError") rfl)) (Classical.choose_spec (c.d.def_ 30 (d := di_BadRow) rfl)),
    x_BadPaper := e_BadPaper (exkB_ok (ex.p2)) (He.glo_ok X G (c.d.fact 47 (f := .glo "BadPaper") rfl)) (He.glo_ok X G (c.d.fact 44 (f := .glo "WholeError") rfl)) (Classical.choose_spec (c.d.def_ 31 (d := di_BadPaper) rfl)) }
end
end K60

/-! K60E -/
set_option Elab.async false
set_option linter.all false
set_option maxRecDepth 100000
set_option maxHeartbeats 0
namespace K60
open PySem PySem.Spec PyProof PyProof.Rows L2 Dn
/-- the plain law -/
def Pure : Prop := ∀ ns : List Int, ns.length ≤ 63 → (∀ z ∈ ns, Builtin.Int.intBits z ≤ 1048576) → ∃ ρ, f_law [.list (ns.map .int)] = .ok (.bool true) ρ
theorem noL_ok {K : PySem.W.Frag} (h : noL K = true) {a : Addr} {o : Obj} (e : K.lookup a = some o) : o.cls ≠ .type "list" := fun z => by
  have q := List.all_eq_true.mp h _ (He.lookup_mem e)
  simp [z] at q
theorem facts (pure : Pure) (w : World) (mg : Str → Option Value) (fa_ : Addr) (h : Heap) (Y : hk.says w h) (G : h.Ns mainGlobals mg) (hfa : mg ("law" : Str) = some (.ref fa_)) :
      ∃ (K : PySem.W.Frag) (fd : FuncData) (cs : List (Addr × Addr)) (sp : Sp), K.In h ∧ (∀ p ∈ cs, h.get? p.2 = some { cls := .none, data := .fields #[] }) ∧ (∀ p ∈ cs, K.lookup p.2 = none) ∧ (∀ p ∈ cs, PySem.W.CodeHd h p.1 p.2) ∧ (∀ (s : Shared) (u : Value), BindsTo s fd ⟨[u], []⟩ [("script", u)]) ∧
        (∀ (H : Hp) (a : Addr) (ns : List Int), ns.length ≤ 63 → (∀ z ∈ ns, Builtin.Int.intBits z ≤ 1048576) → (∀ p ∈ cs, H p.2 = some (.tbl #[])) → SqL K H a (ns.map V.int) → sp [.ref a] H (fun v _ => v = .bl true) fun _ _ _ => False) ∧
        ∀ base : Heap, K.In base → base.Ns mainGlobals mg → (∀ p ∈ cs, LamX.TabB base mg p.1 p.2) → FnG (PySem.Challenge.rw_alwayswhole_k60_whole_endless_rows).prog w K mg base 7 fa_ fd ["script"] sp := by
  obtain ⟨K, KX, c⟩ := Y
  letI : LamTab := ⟨ats, tabsL K⟩
  obtain ⟨fd, F⟩ := c.d.def_ 28 (d := d_law) rfl
  have e := hfa.symm.trans (He.glo_ok KX G (c.d.fact 28 (f := .glo "law") rfl))
  cases e
  have b := FunD.bindsA (ps := ["script"]) F fun _ _ _ _ _ _ us hl => match us, hl with | [_], _ => rfl
  refine ⟨K, fd, tf.map (He.cT K), spF K mg (exT K fs) .fz f_law, KX, fun p hp => ?_, fun p hp => ?_, fun p hp => ?_, fun s v => b s [v] rfl, fun H a ns hl hb hT hS => ?_, fun base hb hN TB => ?_⟩
  · obtain ⟨q, hq, rfl⟩ := List.mem_map.mp hp
    exact c.empty q hq
  · obtain ⟨q, hq, rfl⟩ := List.mem_map.mp hp
    exact c.out q hq
  · obtain ⟨q, hq, rfl⟩ := List.mem_map.mp hp
    exact PySem.W.codeHd_of_K KX (c.hd q hq)
  · have hR : Rd H a (.lst (ns.map V.int)) := by
      rcases hS with h1 | ⟨o, its, n, h1, h2, _⟩
      · exact h1
      · exact absurd h2 (noL_ok (exs_of c.more).1 h1)
    have tabs : LamX.Tabs (LamTab.tabs : List (Addr × Str)) H := fun p hp => by
      have z : ∃ q ∈ tf.map (He.cT K), q.2 = p.1 := by
        have hp' : p ∈ tabsL K := hp
        unfold tabsL at hp'
        simp only [List.mem_cons, List.not_mem_nil, or_false] at hp'
        first
          | exact hp'.elim
          | (rcases hp' with rfl <;> exact ⟨_, List.mem_map_of_mem (by simp [tf]), rfl⟩)
      obtain ⟨q, hq, e⟩ := z
      have t0 := hT q hq
      rw [e] at t0
      exact ⟨#[], t0, trivial, fun pos cv hc => by cases hc⟩
    have ivs : ∀ xs : List Int, IsL K mg (hide (fun _ => False) H) (xs.map V.int) (xs.map PyData.int) := fun xs => by
      induction xs with
      | nil => exact .nil
      | cons x xs ih => exact .cons (.int x) ih
    have hG : Rd (hide (fun _ => False) H) a (.lst (ns.map V.int)) := by
      rcases hR with h1 | ⟨o, h1⟩
      · exact .inl (hide_of (fun z => z) h1)
      · exact .inr ⟨o, hide_of (fun z => z) h1⟩
    obtain ⟨ρ, e⟩ := pure ns hl hb
    refine ⟨fun _ => False, [.list (ns.map .int)], fun _ z => z.elim, tabs, .cons (.lst hG (ivs ns)) .nil, ?_⟩
    rw [e]
    exact fun v H' _ nw => Is.bool_of nw
  · have X2 := hb
    have W : Wd (PySem.Challenge.rw_alwayswhole_k60_whole_endless_rows).prog w K mg base := wd_of KX G c (fun p hp => TB p hp) (fun _ => rfl) rfl
    exact g_law W F
end K60
open PySem PySem.W PySem.Calls PyProof.Rows
theorem K60.holds (pure : K60.Pure) : PySem.Challenge.rw_alwayswhole_k60_whole_endless_rows.Holds := by
  w_on; o_law
  refine HandSHeadRun.head_any (r := OpenLaw.row PySem.Challenge.rw_alwayswhole_k60_whole_endless_rows) (q := view (OpenLaw.row PySem.Challenge.rw_alwayswhole_k60_whole_endless_rows).prog [41]) (H := K60.hk) (ob := K60.ob) (M := 6000) (loose := K60.names) (d := HandSHeadRun.topDef (OpenLaw.row PySem.Challenge.rw_alwayswhole_k60_whole_endless_rows).prog 41) (kwd := []) K60.ob_eq
    (by kernel_rfl) (fun s => by kernel_rfl) K60.run (by kernel_rfl) (by kernel_rfl) (by kernel_rfl) (by rfl) (by first | assumption | decide +kernel) (by decide +kernel) ⟨rfl, rfl, rfl, rfl, rfl, by decide +kernel⟩ ?hw ?hc
  case hw => w_witness2
  case hc =>
    refine Dn.walk_GT (l := PySem.Challenge.rw_alwayswhole_k60_whole_endless_rows) (n := 63) (k := 7) (x := "script") rfl (by decide) (by kernel_rfl) ⟨rfl, by decide, by decide⟩ ?F
    intro w mg fa h Y G hmg0
    have hmg : mg ("law" : PySem.Str) = some (.ref fa) := by
      have e : (HandSHeadRun.topDef (OpenLaw.row PySem.Challenge.rw_alwayswhole_k60_whole_endless_rows).prog 41).name = ("law" : PySem.Str) := by kernel_rfl
      rw [← e]
      exact hmg0
    exact K60.facts pure w mg fa h Y G hmg

/-! K60Z -/
set_option Elab.async false
set_option linter.all false
namespace K60
open PySem Dn
theorem pure_ok : Pure := fun ns _ _ => by
  have h := law_ok ns
  cases e : f_law [.list (ns.map .int)] with
  | ok d ρ =>
    rw [e] at h
    have : d = .bool true := by injection h
    subst this
    exact ⟨ρ, rfl⟩
  | err c d ρ => rw [e] at h; cases h
  | stuck => rw [e] at h; cases h
end K60
theorem PySem.Challenge.cw_alwayswhole_k60_whole_endless_rows_holds : PySem.Challenge.rw_alwayswhole_k60_whole_endless_rows.Holds := by
  exact K60.holds K60.pure_ok
